/- Q4: a part of the proof that a law of this package holds for every input; no condition. -/
import Derived.Test.YtgelmgaackblcaaQ3
namespace Slb
open Go Go.Proofs
set_option maxRecDepth 20000
abbrev TabQ := List (RequestKey × Pending)
def laterQ (now : Int) (x : Pending) : Pending := { x with at_ := now + IntKind.i64.wrap (2000 * 2 ^ x.tries.toNat), tries := x.tries + 1 }
def stepQ (now : Int) (st : TabQ × List Pending × List Pending) (x : Pending) : TabQ × List Pending × List Pending :=
  if now < x.at_ then st else if x.tries = 4 then (adel st.1 (keyQ x), st.2.1, st.2.2 ++ [x]) else (aset st.1 (keyQ x) (laterQ now x), st.2.1 ++ [laterQ now x], st.2.2)
def tickQ (now : Int) (M : TabQ) (l : List Pending) : TabQ × List Pending × List Pending := l.foldl (stepQ now) (M, [], [])
theorem tickQ_succ (now : Int) (M : TabQ) {ys : List Pending} {i : Nat} {s : Pending} (h : ys[i]? = some s) : tickQ now M (ys.take (i + 1)) = stepQ now (tickQ now M (ys.take i)) s := by
  rw [List.take_add_one, h]
  simp [tickQ, List.foldl_append]
theorem tickQ_len (now : Int) (M : TabQ) : ∀ (i : Nat) (ys : List Pending), i ≤ ys.length → (tickQ now M (ys.take i)).2.1.length ≤ i ∧ (tickQ now M (ys.take i)).2.2.length ≤ i
  | 0, ys, _ => by simp [tickQ]
  | i + 1, ys, h => by
    have hi : ys[i]? = some ys[i] := List.getElem?_eq_getElem (by omega)
    obtain ⟨h1, h2⟩ := tickQ_len now M i ys (by omega)
    rw [tickQ_succ now M hi]
    unfold stepQ
    split
    · exact ⟨by omega, by omega⟩
    · split
      · exact ⟨by simp only; omega, by simp only [List.length_append, List.length_cons, List.length_nil]; omega⟩
      · exact ⟨by simp only [List.length_append, List.length_cons, List.length_nil]; omega, by simp only; omega⟩
def OkQ (x : Pending) : Prop := 0 ≤ x.at_ ∧ x.at_ ≤ 2305843009213693952 ∧ 1 ≤ x.tries ∧ x.tries ≤ 4
def RowsQ (E Nw Ec : EntQ) : Prop := ∃ rr, (rows Pending.enc 67 E ++ rows Pending.enc 67 Nw).Perm (rows Pending.enc 67 Ec ++ rr)
theorem RowsQ.start (E : EntQ) : RowsQ E [] E := ⟨[], List.Perm.refl _⟩
theorem RowsQ.del {E Nw Ec : EntQ} (h : RowsQ E Nw Ec) (k : RequestKey) : RowsQ E Nw (adel Ec k) := by
  obtain ⟨rr, h1⟩ := h
  obtain ⟨r2, h2⟩ := rows_adel Pending.enc 67 Ec k
  exact ⟨r2 ++ rr, h1.trans (by rw [← List.append_assoc]; exact List.Perm.append_right _ h2)⟩
theorem RowsQ.set {E Nw Ec : EntQ} (h : RowsQ E Nw Ec) (k : RequestKey) (b : Nat) (x : Pending) : RowsQ E ((k, (b, x)) :: Nw) (aset Ec k (b, x)) := by
  obtain ⟨rr, h1⟩ := h
  obtain ⟨r2, h2⟩ := rows_aset Pending.enc 67 Ec k b x
  refine ⟨r2 ++ rr, ?_⟩
  have e1 : rows Pending.enc 67 ((k, (b, x)) :: Nw) = blk b (Pending.enc x) 67 :: rows Pending.enc 67 Nw := rfl
  rw [e1]
  refine List.perm_middle.trans ((List.Perm.cons _ h1).trans ?_)
  rw [← List.append_assoc]
  exact List.Perm.append_right rr h2

theorem tickQ_spec (F : Fr) {b r : Nat} {most : Int} {E : EntQ} (hf : InQ F b r most E) (hE : E.length ≤ 1000000) (now : Int) (hn0 : 0 ≤ now) (hn1 : now ≤ 2305843009213693952) (hT : ∀ e ∈ E, OkQ e.2.2) : Spec Try.prog 12 #[.pointer (some ⟨b, 0, none⟩), .int .i64 now] [mapQ r (ptrs E)] F (fun v S => ∃ ys va vg Ec Nw, v = .tuple #[va, vg] ∧ ys.Perm (E.map (·.2.2)) ∧ SortedQ ys ∧ vals Ec = (tickQ now (vals E) ys).1 ∧ RowsQ E Nw Ec ∧ S = [mapQ r (ptrs Ec), slA 67 45 Pending.enc va (tickQ now (vals E) ys).2.1, slA 67 45 Pending.enc vg (tickQ now (vals E) ys).2.2, rowsA Pending.enc 67 Nw]) := by
  refine Spec.intro (N := 61) (args := [.pointer (some ⟨b, 0, none⟩), .int .i64 now]) Try.func12 rfl rfl (by simp) ?_
  refine Run.seq fun k1 hk1 => ?_
  refine Run.region ?_
  show Sq _ _ _ [0, 1] _ _ _ _
  refine J.addSl 67 45 Pending.enc ?_
  refine J.addSl 67 45 Pending.enc ?_
  refine J.addRows RequestKey Pending.enc 67 ?_
  refine Sq.quiet (i := 0) rfl (Want.none rfl) rfl (ltN rfl) (QP.assign rfl rfl).read ?_
  refine Sq.quiet (i := 1) rfl (Want.none rfl) rfl (ltN rfl) (QP.assign rfl rfl).read ?_
  refine Sq.nil ?_
  refine hk1 _ _ ?_
  refine Run.seq fun k2 hk2 => ?_
  refine Run.seq fun k3 hk3 => ?_
  refine Run.region ?_
  show Sq _ _ _ [0, 1, 2, 3] _ _ _ _
  refine Sq.quiet (i := 0) rfl (Want.none rfl) rfl (ltN rfl) (QP.move rfl rfl).read ?_
  refine Sq.eff (i := 1) rfl (Want.none rfl) rfl (ltN rfl) (EF.call rfl ce13 rfl (.cons (by repeat (first | exact Pick.head | apply Pick.tail)) Takes.nil) (fun F' hle hr => listQ F' (hf.mono hle) hE)) ?_
  rintro v10 _ ⟨_, ⟨ys, hp, hs, rfl⟩, rfl⟩
  refine J.app ?_
  refine J.slHead (by repeat (first | exact List.Mem.head _ | apply List.Mem.tail)) (fun a10 c10 hv10 hs10 => ?_)
  subst hv10
  show Sq _ _ _ _ _ _ _ _
  have hyl : ys.length = E.length := by simpa using hp.length_eq
  refine Sq.quiet (i := 2) rfl (Want.none rfl) rfl (ltN rfl) (QP.len rfl rfl rfl Try.underlying40).read ?_
  refine Sq.quiet (i := 3) rfl (Want.none rfl) rfl (ltN rfl) (QP.move rfl rfl).read ?_
  refine Sq.nil ?_
  refine hk3 _ _ ?_
  refine Run.block ?_
  refine Run.loop6 (fun (i : Nat) (M : List (RequestKey × Nat)) (Ec : EntQ) (Nw : EntQ) (va : Value) (vg : Value) => i ≤ ys.length ∧ M = ptrs Ec ∧ vals Ec = (tickQ now (vals E) (ys.take i)).1 ∧ RowsQ E Nw Ec) (fun i M Ec Nw va vg => .cons 0 (.pointer (some ⟨b, 0, none⟩)) (.cons 1 (.int .i64 now) (.cons 4 (va) (.cons 5 (vg) (.cons 10 (.slice a10 ys.length c10) (.cons 11 (.int .i64 ys.length) (.cons 12 (.int .i64 i) (.nil)))))))) (fun i M Ec Nw va vg => [mapQ r M, slA 67 45 Pending.enc (.slice a10 ys.length c10) ys, slA 67 45 Pending.enc va (tickQ now (vals E) (ys.take i)).2.1, slA 67 45 Pending.enc vg (tickQ now (vals E) (ys.take i)).2.2, rowsA Pending.enc 67 Nw]) (fun i M Ec Nw va vg => ys.length - i) (0) (ptrs E) (E) ([]) (.slice none 0 0) (.slice none 0 0) (⟨Nat.zero_le _, rfl, rfl, RowsQ.start _⟩) ?_ ?_
  · exact fun _ j => J.envJ (J.keep (.cons (by repeat (first | exact Pick.head | apply Pick.tail)) (.cons (by repeat (first | exact Pick.head | apply Pick.tail)) (.cons (by repeat (first | exact Pick.head | apply Pick.tail)) (.cons (by repeat (first | exact Pick.head | apply Pick.tail)) (.cons (by repeat (first | exact Pick.head | apply Pick.tail)) Takes.nil))))) j) ⟨rfl, rfl, rfl, rfl, rfl, rfl, rfl, trivial⟩
  rintro i M Ec Nw va vg ⟨hile, hM, hv, hrr⟩ kl4 hl4
  refine Run.seq fun k5 hk5 => ?_
  refine Run.region ?_
  show Sq _ _ _ [0] _ _ _ _
  refine Sq.quiet (i := 0) rfl (Want.none rfl) rfl (ltN rfl) (QP.lss rfl rfl rfl).read ?_
  refine J.caseD (fun c13 => ?_) (fun c13 => ?_)
  · skip
    refine Sq.nil ?_
    refine hk5 _ _ ?_
    refine Run.seq fun k6 hk6 => ?_
    refine Run.cond_t rfl ?_
    refine Run.skip ?_
    refine hk6 _ _ ?_
    refine Run.seq fun k7 hk7 => ?_
    refine Run.block ?_
    refine Run.seq fun k8 hk8 => ?_
    refine Run.region ?_
    show Sq _ _ _ [0, 1, 2, 3] _ _ _ _
    have hlt : i < ys.length := by omega
    obtain ⟨s, hi⟩ : ∃ s, ys[i]? = some s := ⟨_, List.getElem?_eq_getElem hlt⟩
    obtain ⟨b0, o0, rfl⟩ := hs10 (by omega)
    have hat : OkQ s := by
      obtain ⟨e, he, rfl⟩ := List.mem_map.1 (hp.subset (List.mem_of_getElem? hi))
      exact hT e he
    unfold OkQ at hat
    have hll := tickQ_len now (vals E) i ys hile
    refine Sq.quiet (i := 0) rfl (Want.none rfl) rfl (ltN rfl) (QP.indexAddr rfl rfl rfl Try.underlying40 z67 (by first | omega | (simp only [List.length_map, List.length_append, List.length_cons, List.length_nil, List.length_take, List.length_drop]; omega)) (by first | omega | (simp only [List.length_map, List.length_append, List.length_cons, List.length_nil, List.length_take, List.length_drop]; omega))).read ?_
    refine Sq.quiet (i := 1) rfl (Want.none rfl) rfl (ltN rfl) (QR.loadSl rfl rfl g67 Pending.enc_len (SlAt.own Pending.enc_len (by repeat (first | exact List.Mem.head _ | apply List.Mem.tail))) hi) ?_
    refine Sq.eff (i := 2) rfl (Want.none rfl) rfl (ltN rfl) (EF.allocA (l := Pending.enc Pending.zero) rfl zero67) ?_
    rintro _ _ ⟨b7, rfl, rfl⟩
    refine Sq.act (i := 3) rfl (Want.none rfl) rfl (EF.storeA rfl rfl rfl z67 (SetL.all (Pending.enc_len _) (Pending.enc_len _)) (Pending.enc_cell _)) ?_
    rintro _ _ rfl
    refine Sq.nil ?_
    refine hk8 _ _ ?_
    refine Run.seq fun k9 hk9 => ?_
    refine Run.region ?_
    show Sq _ _ _ [0, 1, 2, 3, 4, 5, 6] _ _ _ _
    refine Sq.quiet (i := 0) rfl (Want.none rfl) rfl (ltN rfl) (QP.fieldAddr rfl rfl f67_0).read ?_
    refine Sq.quiet (i := 1) rfl (Want.none rfl) rfl (ltN rfl) (QR.load rfl rfl g28 (Pending.sub_pair _)) ?_
    refine Sq.quiet (i := 2) rfl (Want.none rfl) rfl (ltN rfl) (QP.fieldAddr rfl rfl f67_1).read ?_
    refine Sq.quiet (i := 3) rfl (Want.none rfl) rfl (ltN rfl) (QR.load rfl rfl g30 (Pending.sub_id_ _)) ?_
    refine Sq.quiet (i := 4) rfl (Want.none rfl) rfl (ltN rfl) (QP.build (l := RequestKey.enc ⟨((s).pair), ((s).id_)⟩) rfl st75 rfl (by exact ⟨(congrArg some (Pair.enc_len _).symm), ⟨(congrArg some (Bs.len _).symm), trivial⟩⟩) rfl).read ?_
    refine Sq.eff (i := 5) rfl (Want.none rfl) rfl (ltN rfl) (EF.allocA (l := RequestKey.enc RequestKey.zero) rfl zero75) ?_
    rintro _ _ ⟨b8, rfl, rfl⟩
    refine Sq.act (i := 6) rfl (Want.none rfl) rfl (EF.storeA rfl rfl rfl z75 (SetL.all (RequestKey.enc_len _) (RequestKey.enc_len _)) (RequestKey.enc_cell _)) ?_
    rintro _ _ rfl
    refine Sq.nil ?_
    refine hk9 _ _ ?_
    refine Run.block ?_
    refine Run.seq fun k10 hk10 => ?_
    refine Run.region ?_
    show Sq _ _ _ [0, 1, 2, 3, 4] _ _ _ _
    refine Sq.quiet (i := 0) rfl (Want.none rfl) rfl (ltN rfl) (QP.fieldAddr rfl rfl f67_4).read ?_
    refine Sq.quiet (i := 1) rfl (Want.none rfl) rfl (ltN rfl) (QR.load1 rfl rfl g3 (Pending.sub_at_ _)) ?_
    refine Sq.quiet (i := 2) rfl (Want.none rfl) rfl (ltN rfl) (QP.move rfl rfl).read ?_
    refine Sq.quiet (i := 3) rfl (Want.none rfl) rfl (ltN rfl) (QP.gtr rfl rfl rfl).read ?_
    refine J.caseD (fun c44 => ?_) (fun c44 => ?_)
    · skip
      refine Sq.quiet (i := 4) rfl (Want.none rfl) rfl (ltN rfl) (QP.assign rfl rfl).read ?_
      refine Sq.nil ?_
      refine hk10 _ _ ?_
      refine Run.cond_t rfl ?_
      refine Run.skip ?_
      refine hk7 _ _ ?_
      refine Run.region ?_
      show Sq _ _ _ [0, 1] _ _ _ _
      refine Sq.quiet (i := 0) rfl (Want.none rfl) rfl (ltN rfl) (QP.add64 rfl rfl rfl (by first | omega | (simp only [List.length_map, List.length_append, List.length_cons, List.length_nil, List.length_take, List.length_drop]; omega)) (by first | omega | (simp only [List.length_map, List.length_append, List.length_cons, List.length_nil, List.length_take, List.length_drop]; omega))).read ?_
      refine Sq.quiet (i := 1) rfl (Want.none rfl) rfl (ltN rfl) (QP.move rfl rfl).read ?_
      refine Sq.nil ?_
      have hT1 : (tickQ now (vals E) (ys.take (i + 1))) = (tickQ now (vals E) (ys.take i)) := by rw [tickQ_succ now (vals E) hi, stepQ, if_pos c44]
      rw [← hT1]
      exact J.envJ (J.keep (.cons (by repeat (first | exact Pick.head | apply Pick.tail)) (.cons (by repeat (first | exact Pick.head | apply Pick.tail)) (.cons (by repeat (first | exact Pick.head | apply Pick.tail)) (.cons (by repeat (first | exact Pick.head | apply Pick.tail)) (.cons (by repeat (first | exact Pick.head | apply Pick.tail)) Takes.nil))))) (hl4 (i + 1) (M) (Ec) (Nw) (va) (vg) (⟨by omega, hM, by rw [hT1]; exact hv, hrr⟩) (by omega))) ⟨rfl, rfl, rfl, rfl, rfl, rfl, rfl, trivial⟩
    · skip
      refine Sq.quiet (i := 4) rfl (Want.none rfl) rfl (ltN rfl) (QP.assign rfl rfl).read ?_
      refine Sq.nil ?_
      refine hk10 _ _ ?_
      refine Run.cond_f rfl ?_
      refine Run.seq fun k11 hk11 => ?_
      refine Run.region ?_
      show Sq _ _ _ [0, 1, 2, 3] _ _ _ _
      refine Sq.quiet (i := 0) rfl (Want.none rfl) rfl (ltN rfl) (QP.fieldAddr rfl rfl f67_3).read ?_
      refine Sq.quiet (i := 1) rfl (Want.none rfl) rfl (ltN rfl) (QR.load1 rfl rfl g3 (Pending.sub_tries _)) ?_
      refine Sq.quiet (i := 2) rfl (Want.none rfl) rfl (ltN rfl) (QP.eql rfl rfl rfl).read ?_
      refine J.caseD (fun c48 => ?_) (fun c48 => ?_)
      · skip
        refine Sq.quiet (i := 3) rfl (Want.none rfl) rfl (ltN rfl) (QP.assign rfl rfl).read ?_
        refine Sq.nil ?_
        refine hk11 _ _ ?_
        refine Run.cond_t rfl ?_
        refine Run.seq fun k12 hk12 => ?_
        refine Run.region ?_
        show Sq _ _ _ [0, 1, 2, 3, 4] _ _ _ _
        refine Sq.quiet (i := 0) rfl (Want.none rfl) rfl (ltN rfl) (QP.move rfl rfl).read ?_
        refine Sq.quiet (i := 1) rfl (Want.none rfl) rfl (ltN rfl) (QR.load rfl rfl g67 (Pending.enc_sub _)) ?_
        refine Sq.eff (i := 2) rfl (Want.none rfl) rfl (ltN rfl) (EF.buildSlice1 rfl Try.underlying40 z67 zero67 (by simp [Value.cells, Pending.enc_len]) (by decide) rfl rfl (Pending.enc_len _) (by decide)) ?_
        rintro _ _ ⟨b51, rfl, rfl⟩
        refine Sq.eff (i := 3) rfl (Want.none rfl) rfl (ltN rfl) (EF.append1 (xs := ((tickQ now (vals E) (ys.take i)).2.2)) (s := s) el67 Pending.enc_len Pending.enc_cell rfl rfl rfl Try.underlying40 Try.underlying40 rfl rfl (by repeat (first | exact Pick.head | apply Pick.tail)) (by repeat (first | exact List.Mem.head _ | apply List.Mem.tail)) (by first | omega | (simp only [List.length_map, List.length_append, List.length_cons, List.length_nil, List.length_take, List.length_drop]; omega))) ?_
        rintro sl52 _ rfl
        refine Sq.quiet (i := 4) rfl (Want.none rfl) rfl (ltN rfl) (QP.assign rfl rfl).read ?_
        refine Sq.nil ?_
        refine hk12 _ _ ?_
        refine Run.regionD (M := [0, 1, 3, 7, 0, 31]) (q := 31) (r := 24) (by kernel_rfl) ?_
        refine Dw.pure (i := 0) rfl (by kernel_rfl) (Want.none rfl) rfl (ltN rfl) (QP.move rfl rfl) ?_
        refine Dw.pure (i := 1) rfl (by kernel_rfl) (Want.none rfl) rfl (ltN rfl) (QP.nilCheck rfl rfl) ?_
        refine Dw.pure (i := 2) rfl (by kernel_rfl) (Want.none rfl) rfl (ltN rfl) (QP.fieldAddr rfl rfl f70_1) ?_
        refine Dw.read (i := 3) rfl (by kernel_rfl) (Want.none rfl) rfl (ltN rfl) (QR.load1F rfl rfl g68 hf.tb (RequestTable.sub_m _)) ?_
        refine Dw.read (i := 4) rfl (by kernel_rfl) (Want.none rfl) rfl (ltN rfl) (QR.load rfl rfl g75 (RequestKey.enc_sub _)) ?_
        refine Dw.eff (i := 5) (by kernel_rfl) (by kernel_rfl) ?_
        refine One.act (o := _) (l := []) rfl (by kernel_rfl) (Want.none rfl) rfl (EF.delete key75 rfl rfl rfl rfl Try.underlying68) (by kernel_rfl) ?_
        rintro _ _ rfl
        refine ⟨fun _ h => (by cases h), ?_⟩
        refine Dw.nil (by kernel_rfl) ?_
        refine hk7 _ _ ?_
        refine Run.region ?_
        show Sq _ _ _ [0, 1] _ _ _ _
        refine Sq.quiet (i := 0) rfl (Want.none rfl) rfl (ltN rfl) (QP.add64 rfl rfl rfl (by first | omega | (simp only [List.length_map, List.length_append, List.length_cons, List.length_nil, List.length_take, List.length_drop]; omega)) (by first | omega | (simp only [List.length_map, List.length_append, List.length_cons, List.length_nil, List.length_take, List.length_drop]; omega))).read ?_
        refine Sq.quiet (i := 1) rfl (Want.none rfl) rfl (ltN rfl) (QP.move rfl rfl).read ?_
        refine Sq.nil ?_
        have hT1 : (tickQ now (vals E) (ys.take (i + 1))) = (adel (tickQ now (vals E) (ys.take i)).1 (keyQ s), (tickQ now (vals E) (ys.take i)).2.1, (tickQ now (vals E) (ys.take i)).2.2 ++ [s]) := by rw [tickQ_succ now (vals E) hi, stepQ, if_neg c44, if_pos c48]
        have h21 : (tickQ now (vals E) (ys.take (i + 1))).2.1 = (tickQ now (vals E) (ys.take i)).2.1 := by rw [hT1]
        have h22 : (tickQ now (vals E) (ys.take (i + 1))).2.2 = (tickQ now (vals E) (ys.take i)).2.2 ++ [s] := by rw [hT1]
        rw [← h22, ← h21]
        exact J.envJ (J.keep (.cons (by repeat (first | exact Pick.head | apply Pick.tail)) (.cons (by repeat (first | exact Pick.head | apply Pick.tail)) (.cons (by repeat (first | exact Pick.head | apply Pick.tail)) (.cons (by repeat (first | exact Pick.head | apply Pick.tail)) (.cons (by repeat (first | exact Pick.head | apply Pick.tail)) Takes.nil))))) (hl4 (i + 1) (adel M (keyQ s)) (adel Ec (keyQ s)) (Nw) (va) (sl52) (⟨by omega, by rw [hM, ptrs_adel], by rw [hT1, vals_adel, hv], hrr.del _⟩) (by omega))) ⟨rfl, rfl, rfl, rfl, rfl, rfl, rfl, trivial⟩
      · skip
        refine Sq.quiet (i := 3) rfl (Want.none rfl) rfl (ltN rfl) (QP.assign rfl rfl).read ?_
        refine Sq.nil ?_
        refine hk11 _ _ ?_
        refine Run.cond_f rfl ?_
        refine Run.seq fun k13 hk13 => ?_
        refine Run.region ?_
        show Sq _ _ _ [0, 1, 2, 3, 4, 5, 6] _ _ _ _
        have ht3 : s.tries = 1 ∨ s.tries = 2 ∨ s.tries = 3 := by omega
        have hw : 0 ≤ IntKind.i64.wrap (2000 * 2 ^ s.tries.toNat) ∧ IntKind.i64.wrap (2000 * 2 ^ s.tries.toNat) ≤ 16000 := by rcases ht3 with h | h | h <;> rw [h] <;> decide
        refine Sq.quiet (i := 0) rfl (Want.none rfl) rfl (ltN rfl) (QP.move rfl rfl).read ?_
        refine Sq.quiet (i := 1) rfl (Want.none rfl) rfl (ltN rfl) (QP.fieldAddr rfl rfl f67_3).read ?_
        refine Sq.quiet (i := 2) rfl (Want.none rfl) rfl (ltN rfl) (QR.load1 rfl rfl g3 (Pending.sub_tries _)) ?_
        refine Sq.quiet (i := 3) rfl (Want.none rfl) rfl (ltN rfl) (QP.shl64 rfl rfl rfl (by first | omega | (simp only [List.length_map, List.length_append, List.length_cons, List.length_nil, List.length_take, List.length_drop]; omega)) (by first | omega | (simp only [List.length_map, List.length_append, List.length_cons, List.length_nil, List.length_take, List.length_drop]; omega))).read ?_
        refine Sq.quiet (i := 4) rfl (Want.none rfl) rfl (ltN rfl) (QP.add64 rfl rfl rfl (by first | omega | (simp only [List.length_map, List.length_append, List.length_cons, List.length_nil, List.length_take, List.length_drop]; omega)) (by first | omega | (simp only [List.length_map, List.length_append, List.length_cons, List.length_nil, List.length_take, List.length_drop]; omega))).read ?_
        refine Sq.quiet (i := 5) rfl (Want.none rfl) rfl (ltN rfl) (QP.fieldAddr rfl rfl f67_4).read ?_
        refine Sq.act (i := 6) rfl (Want.none rfl) rfl (EF.store rfl rfl rfl z3 (Pending.set_at_ _ _) (cell_one rfl)) ?_
        rintro _ _ rfl
        refine Sq.nil ?_
        refine hk13 _ _ ?_
        refine Run.seq fun k14 hk14 => ?_
        refine Run.region ?_
        show Sq _ _ _ [0, 1, 2, 3, 4] _ _ _ _
        refine Sq.quiet (i := 0) rfl (Want.none rfl) rfl (ltN rfl) (QP.fieldAddr rfl rfl f67_3).read ?_
        refine Sq.quiet (i := 1) rfl (Want.none rfl) rfl (ltN rfl) (QR.load1 rfl rfl g3 (Pending.sub_tries _)) ?_
        refine Sq.quiet (i := 2) rfl (Want.none rfl) rfl (ltN rfl) (QP.add64 rfl rfl rfl (by first | omega | (simp only [List.length_map, List.length_append, List.length_cons, List.length_nil, List.length_take, List.length_drop]; omega)) (by first | omega | (simp only [List.length_map, List.length_append, List.length_cons, List.length_nil, List.length_take, List.length_drop]; omega))).read ?_
        refine Sq.quiet (i := 3) rfl (Want.none rfl) rfl (ltN rfl) (QP.fieldAddr rfl rfl f67_3).read ?_
        refine Sq.act (i := 4) rfl (Want.none rfl) rfl (EF.store rfl rfl rfl z3 (Pending.set_tries _ _) (cell_one rfl)) ?_
        rintro _ _ rfl
        refine Sq.nil ?_
        refine hk14 _ _ ?_
        refine Run.seq fun k15 hk15 => ?_
        refine Run.region ?_
        show Sq _ _ _ [0, 1, 2, 3, 4] _ _ _ _
        refine Sq.quiet (i := 0) rfl (Want.none rfl) rfl (ltN rfl) (QP.move rfl rfl).read ?_
        refine Sq.quiet (i := 1) rfl (Want.none rfl) rfl (ltN rfl) (QR.load rfl rfl g67 (Pending.enc_sub _)) ?_
        refine Sq.eff (i := 2) rfl (Want.none rfl) rfl (ltN rfl) (EF.buildSlice1 rfl Try.underlying40 z67 zero67 (by simp [Value.cells, Pending.enc_len]) (by decide) rfl rfl (Pending.enc_len _) (by decide)) ?_
        rintro _ _ ⟨b33, rfl, rfl⟩
        refine Sq.eff (i := 3) rfl (Want.none rfl) rfl (ltN rfl) (EF.append1 (xs := ((tickQ now (vals E) (ys.take i)).2.1)) (s := _) el67 Pending.enc_len Pending.enc_cell rfl rfl rfl Try.underlying40 Try.underlying40 rfl rfl (by repeat (first | exact Pick.head | apply Pick.tail)) (by repeat (first | exact List.Mem.head _ | apply List.Mem.tail)) (by first | omega | (simp only [List.length_map, List.length_append, List.length_cons, List.length_nil, List.length_take, List.length_drop]; omega))) ?_
        rintro sl34 _ rfl
        refine Sq.quiet (i := 4) rfl (Want.none rfl) rfl (ltN rfl) (QP.assign rfl rfl).read ?_
        refine Sq.nil ?_
        refine hk15 _ _ ?_
        refine Run.regionD (M := [0, 1, 3, 7, 0, 31]) (q := 31) (r := 24) (by kernel_rfl) ?_
        refine Dw.pure (i := 0) rfl (by kernel_rfl) (Want.none rfl) rfl (ltN rfl) (QP.move rfl rfl) ?_
        refine Dw.pure (i := 1) rfl (by kernel_rfl) (Want.none rfl) rfl (ltN rfl) (QP.nilCheck rfl rfl) ?_
        refine Dw.pure (i := 2) rfl (by kernel_rfl) (Want.none rfl) rfl (ltN rfl) (QP.fieldAddr rfl rfl f70_1) ?_
        refine Dw.read (i := 3) rfl (by kernel_rfl) (Want.none rfl) rfl (ltN rfl) (QR.load1F rfl rfl g68 hf.tb (RequestTable.sub_m _)) ?_
        refine Dw.read (i := 4) rfl (by kernel_rfl) (Want.none rfl) rfl (ltN rfl) (QR.load rfl rfl g75 (RequestKey.enc_sub _)) ?_
        refine Dw.eff (i := 5) (by kernel_rfl) (by kernel_rfl) ?_
        refine One.act (o := _) (l := []) rfl (by kernel_rfl) (Want.none rfl) rfl (EF.mapUpdate (ev := pv) (v := _) key75 rfl rfl rfl rfl Try.underlying68) (by kernel_rfl) ?_
        rintro _ _ rfl
        refine ⟨fun _ h => (by cases h), ?_⟩
        refine Dw.nil (by kernel_rfl) ?_
        refine hk7 _ _ ?_
        refine Run.region ?_
        show Sq _ _ _ [0, 1] _ _ _ _
        refine Sq.quiet (i := 0) rfl (Want.none rfl) rfl (ltN rfl) (QP.add64 rfl rfl rfl (by first | omega | (simp only [List.length_map, List.length_append, List.length_cons, List.length_nil, List.length_take, List.length_drop]; omega)) (by first | omega | (simp only [List.length_map, List.length_append, List.length_cons, List.length_nil, List.length_take, List.length_drop]; omega))).read ?_
        refine Sq.quiet (i := 1) rfl (Want.none rfl) rfl (ltN rfl) (QP.move rfl rfl).read ?_
        refine Sq.nil ?_
        have hT1 : (tickQ now (vals E) (ys.take (i + 1))) = (aset (tickQ now (vals E) (ys.take i)).1 (keyQ s) (laterQ now s), (tickQ now (vals E) (ys.take i)).2.1 ++ [laterQ now s], (tickQ now (vals E) (ys.take i)).2.2) := by rw [tickQ_succ now (vals E) hi, stepQ, if_neg c44, if_neg c48]
        have h21 : (tickQ now (vals E) (ys.take (i + 1))).2.1 = (tickQ now (vals E) (ys.take i)).2.1 ++ [laterQ now s] := by rw [hT1]
        have h22 : (tickQ now (vals E) (ys.take (i + 1))).2.2 = (tickQ now (vals E) (ys.take i)).2.2 := by rw [hT1]
        refine J.close (A := rowsA Pending.enc 67 ((keyQ s, (b7, laterQ now s)) :: Nw)) (m := [blk b7 (Pending.enc (laterQ now s)) 67, rowsA Pending.enc 67 Nw]) (.cons (by repeat (first | exact Pick.head | apply Pick.tail)) (.cons (by repeat (first | exact Pick.head | apply Pick.tail)) Takes.nil)) (fun h hh => rowsA_cons _ _ _ hh) ?_
        refine J.slEq (v := sl34) (by repeat (first | exact Pick.head | apply Pick.tail)) h21.symm ?_
        rw [← h22]
        exact J.envJ (J.keep (.cons (by repeat (first | exact Pick.head | apply Pick.tail)) (.cons (by repeat (first | exact Pick.head | apply Pick.tail)) (.cons (by repeat (first | exact Pick.head | apply Pick.tail)) (.cons (by repeat (first | exact Pick.head | apply Pick.tail)) (.cons (by repeat (first | exact Pick.head | apply Pick.tail)) Takes.nil))))) (hl4 (i + 1) (aset M (keyQ s) b7) (aset Ec (keyQ s) (b7, laterQ now s)) ((keyQ s, (b7, laterQ now s)) :: Nw) (sl34) (vg) (⟨by omega, by rw [hM, ptrs_aset], by rw [hT1, vals_aset, hv], hrr.set _ _ _⟩) (by omega))) ⟨rfl, rfl, rfl, rfl, rfl, rfl, rfl, trivial⟩
  · skip
    refine Sq.nil ?_
    refine hk5 _ _ ?_
    refine Run.seq fun k16 hk16 => ?_
    refine Run.cond_f rfl ?_
    refine Run.exit rfl ?_
    refine hk2 _ _ ?_
    refine Run.seq fun k17 hk17 => ?_
    refine Run.region ?_
    show Sq _ _ _ [0, 1, 2, 3] _ _ _ _
    refine Sq.quiet (i := 0) rfl (Want.none rfl) rfl (ltN rfl) (QP.move rfl rfl).read ?_
    refine Sq.quiet (i := 1) rfl (Want.none rfl) rfl (ltN rfl) (QP.move rfl rfl).read ?_
    refine Sq.quiet (i := 2) rfl (Want.none rfl) rfl (ltN rfl) (QP.assign rfl rfl).read ?_
    refine Sq.quiet (i := 3) rfl (Want.none rfl) rfl (ltN rfl) (QP.assign rfl rfl).read ?_
    refine Sq.nil ?_
    refine hk17 _ _ ?_
    refine Run.ret ?_
    have hty : ys.take i = ys := List.take_of_length_le (by omega)
    subst hM
    rw [hty] at hv
    rw [hty]
    exact J.ends (res_tmp2 rfl rfl rfl) (.cons (by repeat (first | exact Pick.head | apply Pick.tail)) (.cons (by repeat (first | exact Pick.head | apply Pick.tail)) (.cons (by repeat (first | exact Pick.head | apply Pick.tail)) (.cons (by repeat (first | exact Pick.head | apply Pick.tail)) Takes.nil)))) ⟨ys, va, vg, Ec, Nw, rfl, hp, hs, hv, hrr, rfl⟩
end Slb
