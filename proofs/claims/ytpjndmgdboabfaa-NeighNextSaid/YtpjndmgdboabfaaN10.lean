/- N10: a part of the proof that a law of this package holds for every input; no condition. -/
import Derived.Test.YtpjndmgdboabfaaN9
namespace Slb
open Go Go.Proofs
set_option maxRecDepth 20000
/-- The least of the times at which something changes. -/
def leastF (acc : Int × Bool) (a : Int) (so : Bool) : Int × Bool := if so = true ∧ (acc.2 = false ∨ a < acc.1) then (a, true) else acc
def mOn (s : Neighbour) : Bool := decide (0 < s.multiGap) && decide (s.multi.bits ≠ 0)
def uOn (s : Neighbour) : Bool := decide (0 < s.uniGap) && decide (s.uni.bits ≠ 0)
def tOn (s : Neighbour) : Bool := decide (s.tx ≠ 65535)
def nextS (acc : Int × Bool) (s : Neighbour) : Int × Bool := leastF (leastF (leastF acc s.multiAt (mOn s)) s.uniAt (uOn s)) s.txAt (tOn s)
def nextF (L : List Neighbour) : Int × Bool := L.foldl nextS (0, false)
theorem nextF_succ {L : List Neighbour} {i : Nat} {s : Neighbour} (h : L[i]? = some s) : nextF (L.take (i + 1)) = nextS (nextF (L.take i)) s := by
  unfold nextF
  rw [take_succ_get h, List.foldl_append]
  rfl

theorem least_spec (F : Fr) {bo bb : Nat} (ok so : Bool) (best a : Int) : Spec Try.prog 40 #[.int .i64 a, .bool so, .pointer (some ⟨bo, 0, none⟩), .pointer (some ⟨bb, 0, none⟩)] [blk bo [.bool ok] 4, blk bb [.int .i64 best] 3] F (fun v S => S = [blk bo [.bool (leastF (best, ok) a so).2] 4, blk bb [.int .i64 (leastF (best, ok) a so).1] 3]) := by
 refine Spec.intro (N := 17) (args := [.int .i64 a, .bool so, .pointer (some ⟨bo, 0, none⟩), .pointer (some ⟨bb, 0, none⟩)]) Try.func40 rfl rfl (by simp) ?_
 refine Run.seq fun k1 hk1 => ?_
 refine Run.region ?_
 show Sq _ _ _ [0, 1, 2, 3, 4, 5, 6, 7, 8, 9] _ _ _ _
 refine Sq.quiet (i := 0) rfl (Want.none rfl) rfl (ltN rfl) (QP.move rfl rfl).read ?_
 refine J.caseB (fun c6 => ?_) (fun c6 => ?_)
 ·skip
  refine Sq.quiet (i := 1) rfl (Want.none rfl) rfl (ltN rfl) (QP.move rfl rfl).read ?_
  refine Sq.quiet (i := 2) rfl (Want.yes rfl rfl rfl rfl) rfl (ltN rfl) (QR.load1 rfl rfl g4 SubL.one) ?_
  refine J.caseB (fun c8 => ?_) (fun c8 => ?_)
  ·skip
   refine Sq.quiet (i := 3) rfl (Want.yes rfl rfl rfl rfl) rfl (ltN rfl) (QP.not rfl rfl).read ?_
   refine Sq.quiet (i := 4) rfl (Want.yes rfl rfl rfl rfl) rfl (ltN rfl) (QP.move rfl rfl).read ?_
   refine Sq.quiet (i := 5) rfl (Want.yes rfl rfl rfl rfl) rfl (ltN rfl) (QP.move rfl rfl).read ?_
   refine Sq.quiet (i := 6) rfl (Want.yes rfl rfl rfl rfl) rfl (ltN rfl) (QR.load1 rfl rfl g3 SubL.one) ?_
   refine Sq.quiet (i := 7) rfl (Want.yes rfl rfl rfl rfl) rfl (ltN rfl) (QP.lss rfl rfl rfl).read ?_
   refine J.caseD (fun c13 => ?_) (fun c13 => ?_)
   ·skip
    refine Sq.quiet (i := 8) rfl (Want.yes rfl rfl rfl rfl) rfl (ltN rfl) (QP.pick_f rfl rfl rfl).read ?_
    refine Sq.quiet (i := 9) rfl (Want.none rfl) rfl (ltN rfl) (QP.pick_t rfl rfl rfl).read ?_
    refine Sq.nil ?_
    refine hk1 _ _ ?_
    refine Run.cond_t rfl ?_
    refine Run.region ?_
    show Sq _ _ _ [0, 1, 2] _ _ _ _
    refine Sq.quiet (i := 0) rfl (Want.none rfl) rfl (ltN rfl) (QP.move rfl rfl).read ?_
    refine Sq.act (i := 1) rfl (Want.none rfl) rfl (EF.store rfl rfl rfl z3 SetL.one (cell_one rfl)) ?_
    rintro _ _ rfl
    refine Sq.act (i := 2) rfl (Want.none rfl) rfl (EF.store rfl rfl rfl z4 SetL.one (cell_one rfl)) ?_
    rintro _ _ rfl
    refine Sq.nil ?_
    exact J.ends (res_none rfl) (.cons (by repeat constructor) (.cons (by repeat constructor) Takes.nil)) (by unfold leastF; rw [if_pos ⟨c6, by simpa using Or.inr c13⟩])
   ·skip
    refine Sq.quiet (i := 8) rfl (Want.yes rfl rfl rfl rfl) rfl (ltN rfl) (QP.pick_f rfl rfl rfl).read ?_
    refine Sq.quiet (i := 9) rfl (Want.none rfl) rfl (ltN rfl) (QP.pick_t rfl rfl rfl).read ?_
    refine Sq.nil ?_
    refine hk1 _ _ ?_
    refine Run.cond_f rfl ?_
    refine Run.skip ?_
    exact J.ends (res_none rfl) (.cons (by repeat constructor) (.cons (by repeat constructor) Takes.nil)) (by unfold leastF; rw [if_neg (fun h => by rcases h.2 with h | h; simp at h; rw [c8] at h; cases h; exact c13 h)])
  ·skip
   refine Sq.quiet (i := 3) rfl (Want.yes rfl rfl rfl rfl) rfl (ltN rfl) (QP.not rfl rfl).read ?_
   refine Sq.quiet (i := 4) rfl (Want.yes rfl rfl rfl rfl) rfl (ltN rfl) (QP.move rfl rfl).read ?_
   refine Sq.skip (i := 5) rfl (Want.no rfl rfl rfl rfl) rfl (ltN rfl) ?_
   refine Sq.skip (i := 6) rfl (Want.no rfl rfl rfl rfl) rfl (ltN rfl) ?_
   refine Sq.skip (i := 7) rfl (Want.no rfl rfl rfl rfl) rfl (ltN rfl) ?_
   refine Sq.quiet (i := 8) rfl (Want.yes rfl rfl rfl rfl) rfl (ltN rfl) (QP.pick_t rfl rfl rfl).read ?_
   refine Sq.quiet (i := 9) rfl (Want.none rfl) rfl (ltN rfl) (QP.pick_t rfl rfl rfl).read ?_
   refine Sq.nil ?_
   refine hk1 _ _ ?_
   refine Run.cond_t rfl ?_
   refine Run.region ?_
   show Sq _ _ _ [0, 1, 2] _ _ _ _
   refine Sq.quiet (i := 0) rfl (Want.none rfl) rfl (ltN rfl) (QP.move rfl rfl).read ?_
   refine Sq.act (i := 1) rfl (Want.none rfl) rfl (EF.store rfl rfl rfl z3 SetL.one (cell_one rfl)) ?_
   rintro _ _ rfl
   refine Sq.act (i := 2) rfl (Want.none rfl) rfl (EF.store rfl rfl rfl z4 SetL.one (cell_one rfl)) ?_
   rintro _ _ rfl
   refine Sq.nil ?_
   exact J.ends (res_none rfl) (.cons (by repeat constructor) (.cons (by repeat constructor) Takes.nil)) (by unfold leastF; rw [if_pos ⟨c6, by simpa using Or.inl c8⟩])
 ·skip
  refine Sq.quiet (i := 1) rfl (Want.none rfl) rfl (ltN rfl) (QP.move rfl rfl).read ?_
  refine Sq.skip (i := 2) rfl (Want.no rfl rfl rfl rfl) rfl (ltN rfl) ?_
  refine Sq.skip (i := 3) rfl (Want.no rfl rfl rfl rfl) rfl (ltN rfl) ?_
  refine Sq.skip (i := 4) rfl (Want.no rfl rfl rfl rfl) rfl (ltN rfl) ?_
  refine Sq.skip (i := 5) rfl (Want.undef rfl rfl rfl) rfl (ltN rfl) ?_
  refine Sq.skip (i := 6) rfl (Want.undef rfl rfl rfl) rfl (ltN rfl) ?_
  refine Sq.skip (i := 7) rfl (Want.undef rfl rfl rfl) rfl (ltN rfl) ?_
  refine Sq.skip (i := 8) rfl (Want.no rfl rfl rfl rfl) rfl (ltN rfl) ?_
  refine Sq.quiet (i := 9) rfl (Want.none rfl) rfl (ltN rfl) (QP.pick_f rfl rfl rfl).read ?_
  refine Sq.nil ?_
  refine hk1 _ _ ?_
  refine Run.cond_f rfl ?_
  refine Run.skip ?_
  exact J.ends (res_none rfl) (.cons (by repeat constructor) (.cons (by repeat constructor) Takes.nil)) (by unfold leastF; rw [if_neg (fun h => by rw [c6] at h; cases h.1)])

theorem nextT0 (F : Fr) {b : Nat} {most : Int} {q : Slc} {M : TabN} (hM : M.length ≤ 1000000) (hk : KeyedN M)  : Spec Try.prog 19 #[.pointer (some ⟨b, 0, none⟩)] [NTab b most q M] F (fun v S => ∃ (r : Nat) (E es : EntN) (L : List Neighbour), vals E = M ∧ (E.map (·.1)).Nodup ∧ es.Perm E ∧ L = es.map (·.2.2) ∧ SortedN L ∧ v = .tuple #[.int .i64 (nextF L).1, .bool (nextF L).2] ∧ S = [blk b (NeighTable.enc ⟨most, q, some r⟩) 77, mapN r (ptrs E), rowsA Neighbour.enc 54 E]) := by
 refine Spec.intro (N := 51) (args := [.pointer (some ⟨b, 0, none⟩)]) Try.func19 rfl rfl (by simp) ?_
 refine Run.seq fun k1 hk1 => ?_
 refine Run.region ?_
 show Sq _ _ _ [0, 1] _ _ _ _
 refine Sq.eff (i := 0) rfl (Want.none rfl) rfl (ltN rfl) (EF.alloc1 rfl zero3 rfl) ?_
 rintro _ _ ⟨b2, rfl, rfl⟩
 refine Sq.eff (i := 1) rfl (Want.none rfl) rfl (ltN rfl) (EF.alloc1 rfl zero4 rfl) ?_
 rintro _ _ ⟨b3, rfl, rfl⟩
 refine Sq.nil ?_
 refine hk1 _ _ ?_
 refine Run.seq fun k2 hk2 => ?_
 refine Run.region ?_
 show Sq _ _ _ [0, 1] _ _ _ _
 refine Sq.quiet (i := 0) rfl (Want.none rfl) rfl (ltN rfl) (QP.makeFunc rfl rfl).read ?_
 refine Sq.quiet (i := 1) rfl (Want.none rfl) rfl (ltN rfl) (QP.assign rfl rfl).read ?_
 refine Sq.nil ?_
 refine hk2 _ _ ?_
 refine Run.seq fun k3 hk3 => ?_
 refine Run.seq fun k4 hk4 => ?_
 refine Run.region ?_
 show Sq _ _ _ [0, 1, 2, 3] _ _ _ _
 refine Sq.quiet (i := 0) rfl (Want.none rfl) rfl (ltN rfl) (QP.move rfl rfl).read ?_
 refine Sq.eff (i := 1) rfl (Want.none rfl) rfl (ltN rfl) (EF.call rfl ce13 rfl (.cons (by repeat constructor) Takes.nil) (fun F' hle hr => listO F' hM)) ?_
 rintro v9 _ ⟨_, ⟨r, E, es, L, hv, hn, hp, hL, hs, rfl⟩, rfl⟩
 refine J.app ?_
 refine Sq.slCase (v := v9) (xs := L) (by repeat constructor) (fun a9 c9 hv9 hh9 => ?_)
 subst hv9
 have hLl : L.length ≤ 1000000 := by rw [hL, List.length_map, hp.length_eq, ← lenN (E := E), hv]; exact hM
 refine Sq.quiet (i := 2) rfl (Want.none rfl) rfl (ltN rfl) (QP.len rfl rfl rfl Try.underlying44).read ?_
 refine Sq.quiet (i := 3) rfl (Want.none rfl) rfl (ltN rfl) (QP.move rfl rfl).read ?_
 refine Sq.nil ?_
 refine hk4 _ _ ?_
 refine Run.block ?_
 refine Run.loop1 (fun (i : Nat) => i ≤ L.length) (fun i => .cons 2 (.pointer (some ⟨b2, 0, none⟩)) (.cons 3 (.pointer (some ⟨b3, 0, none⟩)) (.cons 4 (.func (.func 40) #[] #[.pointer (some ⟨b3, 0, none⟩), .pointer (some ⟨b2, 0, none⟩)]) (.cons 9 (.slice a9 L.length c9) (.cons 10 (.int .i64 L.length) (.cons 11 (.int .i64 i) (.nil))))))) (fun i => [blk b3 [.bool (nextF (L.take i)).2] 4, blk b2 [.int .i64 (nextF (L.take i)).1] 3, blk b (NeighTable.enc ⟨most, q, some r⟩) 77, mapN r (ptrs E), rowsA Neighbour.enc 54 E, slA 54 34 Neighbour.enc (.slice a9 L.length c9) L]) (fun i => L.length - i) (0) (Nat.zero_le _) ?_ ?_
 ·exact fun _ j => J.envJ (J.keep (.cons (by repeat constructor) (.cons (by repeat constructor) (.cons (by repeat constructor) (.cons (by repeat constructor) (.cons (by repeat constructor) (.cons (by repeat constructor) Takes.nil)))))) j) ⟨rfl, rfl, rfl, rfl, rfl, rfl, trivial⟩
 rintro i hile kl5 hl5
 refine Run.seq fun k6 hk6 => ?_
 refine Run.region ?_
 show Sq _ _ _ [0] _ _ _ _
 refine Sq.quiet (i := 0) rfl (Want.none rfl) rfl (ltN rfl) (QP.lss rfl rfl rfl).read ?_
 refine J.caseD (fun c12 => ?_) (fun c12 => ?_)
 ·skip
  refine Sq.nil ?_
  refine hk6 _ _ ?_
  refine Run.seq fun k7 hk7 => ?_
  refine Run.cond_t rfl ?_
  refine Run.skip ?_
  refine hk7 _ _ ?_
  refine Run.seq fun k8 hk8 => ?_
  refine Run.block ?_
  refine Run.seq fun k9 hk9 => ?_
  refine Run.region ?_
  show Sq _ _ _ [0, 1, 2, 3] _ _ _ _
  obtain ⟨x, hx⟩ : ∃ x, L[i]? = some x := ⟨_, List.getElem?_eq_getElem (by omega)⟩
  obtain ⟨b0, o0, rfl⟩ := hh9.get (by omega)
  refine Sq.quiet (i := 0) rfl (Want.none rfl) rfl (ltN rfl) (QP.indexAddr rfl rfl rfl Try.underlying44 z54 (by first | omega | (simp <;> omega)) (by first | omega | (simp <;> omega))).read ?_
  refine Sq.quiet (i := 1) rfl (Want.none rfl) rfl (ltN rfl) (QR.loadSl rfl rfl g54 Neighbour.enc_len (SlAt.own Neighbour.enc_len (by repeat constructor)) hx) ?_
  refine Sq.eff (i := 2) rfl (Want.none rfl) rfl (ltN rfl) (EF.allocA (l := Neighbour.enc Neighbour.zero) rfl zero54) ?_
  rintro _ _ ⟨b6, rfl, rfl⟩
  refine Sq.act (i := 3) rfl (Want.none rfl) rfl (EF.storeA rfl rfl rfl z54 (SetL.all (Neighbour.enc_len _) (Neighbour.enc_len _)) (Neighbour.enc_cell _)) ?_
  rintro _ _ rfl
  refine Sq.nil ?_
  refine hk9 _ _ ?_
  refine Run.seq fun k10 hk10 => ?_
  refine Run.region ?_
  show Sq _ _ _ [0, 1, 2, 3, 4, 5, 6, 7, 8, 9, 10, 11, 12] _ _ _ _
  refine Sq.quiet (i := 0) rfl (Want.none rfl) rfl (ltN rfl) (QP.move rfl rfl).read ?_
  refine Sq.quiet (i := 1) rfl (Want.none rfl) rfl (ltN rfl) (QP.fieldAddr rfl rfl f54_6).read ?_
  refine Sq.quiet (i := 2) rfl (Want.none rfl) rfl (ltN rfl) (QR.load1 rfl rfl g3 (Neighbour.sub_multiAt _)) ?_
  refine Sq.quiet (i := 3) rfl (Want.none rfl) rfl (ltN rfl) (QP.fieldAddr rfl rfl f54_4).read ?_
  refine Sq.quiet (i := 4) rfl (Want.none rfl) rfl (ltN rfl) (QR.load1 rfl rfl g3 (Neighbour.sub_multiGap _)) ?_
  refine Sq.quiet (i := 5) rfl (Want.none rfl) rfl (ltN rfl) (QP.gtr rfl rfl rfl).read ?_
  refine J.caseD (fun c20 => ?_) (fun c20 => ?_)
  ·skip
   refine Sq.quiet (i := 6) rfl (Want.none rfl) rfl (ltN rfl) (QP.move rfl rfl).read ?_
   refine Sq.quiet (i := 7) rfl (Want.yes rfl rfl rfl rfl) rfl (ltN rfl) (QP.fieldAddr rfl rfl f54_2).read ?_
   refine Sq.quiet (i := 8) rfl (Want.yes rfl rfl rfl rfl) rfl (ltN rfl) (QP.fieldAddr rfl rfl f51_0).read ?_
   refine Sq.quiet (i := 9) rfl (Want.yes rfl rfl rfl rfl) rfl (ltN rfl) (QR.load1 rfl rfl g30 ((Neighbour.sub_multi _).trans (History.sub_bits _))) ?_
   refine Sq.quiet (i := 10) rfl (Want.yes rfl rfl rfl rfl) rfl (ltN rfl) (QP.neq rfl rfl rfl).read ?_
   refine Sq.quiet (i := 11) rfl (Want.none rfl) rfl (ltN rfl) (QP.pick_t rfl rfl rfl).read ?_
   refine Sq.eff (i := 12) rfl (Want.none rfl) rfl (ltN rfl) (EF.callV rfl rfl ce40 rfl (.cons (by repeat constructor) (.cons (by repeat constructor) Takes.nil)) (fun F' hle hr => least_spec F' _ _ _ _)) ?_
   rintro _ _ ⟨_, rfl, rfl⟩
   refine J.app ?_
   have hA1 : leastF ((nextF (L.take i)).1, (nextF (L.take i)).2) x.multiAt (decide (¬ x.multi.bits = 0)) = leastF (nextF (L.take i)) x.multiAt (mOn x) := by rw [show mOn x = decide (¬ x.multi.bits = 0) by unfold mOn; rw [decide_eq_true (show 0 < x.multiGap from c20), Bool.true_and]]
   rw [hA1]
   generalize hB1 : leastF (nextF (L.take i)) x.multiAt (mOn x) = A1
   refine Sq.nil ?_
   refine hk10 _ _ ?_
   refine Run.seq fun k11 hk11 => ?_
   refine Run.region ?_
   show Sq _ _ _ [0, 1, 2, 3, 4, 5, 6, 7, 8, 9, 10, 11, 12] _ _ _ _
   refine Sq.quiet (i := 0) rfl (Want.none rfl) rfl (ltN rfl) (QP.move rfl rfl).read ?_
   refine Sq.quiet (i := 1) rfl (Want.none rfl) rfl (ltN rfl) (QP.fieldAddr rfl rfl f54_7).read ?_
   refine Sq.quiet (i := 2) rfl (Want.none rfl) rfl (ltN rfl) (QR.load1 rfl rfl g3 (Neighbour.sub_uniAt _)) ?_
   refine Sq.quiet (i := 3) rfl (Want.none rfl) rfl (ltN rfl) (QP.fieldAddr rfl rfl f54_5).read ?_
   refine Sq.quiet (i := 4) rfl (Want.none rfl) rfl (ltN rfl) (QR.load1 rfl rfl g3 (Neighbour.sub_uniGap _)) ?_
   refine Sq.quiet (i := 5) rfl (Want.none rfl) rfl (ltN rfl) (QP.gtr rfl rfl rfl).read ?_
   refine J.caseD (fun c33 => ?_) (fun c33 => ?_)
   ·skip
    refine Sq.quiet (i := 6) rfl (Want.none rfl) rfl (ltN rfl) (QP.move rfl rfl).read ?_
    refine Sq.quiet (i := 7) rfl (Want.yes rfl rfl rfl rfl) rfl (ltN rfl) (QP.fieldAddr rfl rfl f54_3).read ?_
    refine Sq.quiet (i := 8) rfl (Want.yes rfl rfl rfl rfl) rfl (ltN rfl) (QP.fieldAddr rfl rfl f51_0).read ?_
    refine Sq.quiet (i := 9) rfl (Want.yes rfl rfl rfl rfl) rfl (ltN rfl) (QR.load1 rfl rfl g30 ((Neighbour.sub_uni _).trans (History.sub_bits _))) ?_
    refine Sq.quiet (i := 10) rfl (Want.yes rfl rfl rfl rfl) rfl (ltN rfl) (QP.neq rfl rfl rfl).read ?_
    refine Sq.quiet (i := 11) rfl (Want.none rfl) rfl (ltN rfl) (QP.pick_t rfl rfl rfl).read ?_
    refine Sq.eff (i := 12) rfl (Want.none rfl) rfl (ltN rfl) (EF.callV rfl rfl ce40 rfl (.cons (by repeat constructor) (.cons (by repeat constructor) Takes.nil)) (fun F' hle hr => least_spec F' _ _ _ _)) ?_
    rintro _ _ ⟨_, rfl, rfl⟩
    refine J.app ?_
    have hA2 : leastF (A1.1, A1.2) x.uniAt (decide (¬ x.uni.bits = 0)) = leastF A1 x.uniAt (uOn x) := by rw [show uOn x = decide (¬ x.uni.bits = 0) by unfold uOn; rw [decide_eq_true (show 0 < x.uniGap from c33), Bool.true_and]]
    rw [hA2]
    generalize hB2 : leastF A1 x.uniAt (uOn x) = A2
    refine Sq.nil ?_
    refine hk11 _ _ ?_
    refine Run.region ?_
    show Sq _ _ _ [0, 1, 2, 3, 4, 5, 6] _ _ _ _
    refine Sq.quiet (i := 0) rfl (Want.none rfl) rfl (ltN rfl) (QP.move rfl rfl).read ?_
    refine Sq.quiet (i := 1) rfl (Want.none rfl) rfl (ltN rfl) (QP.fieldAddr rfl rfl f54_9).read ?_
    refine Sq.quiet (i := 2) rfl (Want.none rfl) rfl (ltN rfl) (QR.load1 rfl rfl g3 (Neighbour.sub_txAt _)) ?_
    refine Sq.quiet (i := 3) rfl (Want.none rfl) rfl (ltN rfl) (QP.fieldAddr rfl rfl f54_8).read ?_
    refine Sq.quiet (i := 4) rfl (Want.none rfl) rfl (ltN rfl) (QR.load1 rfl rfl g30 (Neighbour.sub_tx _)) ?_
    refine Sq.quiet (i := 5) rfl (Want.none rfl) rfl (ltN rfl) (QP.neq rfl rfl rfl).read ?_
    refine Sq.eff (i := 6) rfl (Want.none rfl) rfl (ltN rfl) (EF.callV rfl rfl ce40 rfl (.cons (by repeat constructor) (.cons (by repeat constructor) Takes.nil)) (fun F' hle hr => least_spec F' _ _ _ _)) ?_
    rintro _ _ ⟨_, rfl, rfl⟩
    refine J.app ?_
    rw [show leastF (A2.1, A2.2) x.txAt (decide (¬ x.tx = 65535)) = nextS (nextF (L.take i)) x by unfold nextS; rw [hB1, hB2]; rfl, ← nextF_succ hx]
    refine Sq.nil ?_
    refine hk8 _ _ ?_
    refine Run.region ?_
    show Sq _ _ _ [0, 1] _ _ _ _
    refine Sq.quiet (i := 0) rfl (Want.none rfl) rfl (ltN rfl) (QP.add64 rfl rfl rfl (by first | omega | (simp <;> omega)) (by first | omega | (simp <;> omega))).read ?_
    refine Sq.quiet (i := 1) rfl (Want.none rfl) rfl (ltN rfl) (QP.move rfl rfl).read ?_
    refine Sq.nil ?_
    exact J.envJ (J.keep (.cons (by repeat constructor) (.cons (by repeat constructor) (.cons (by repeat constructor) (.cons (by repeat constructor) (.cons (by repeat constructor) (.cons (by repeat constructor) Takes.nil)))))) (hl5 (i + 1) (by omega) (by omega))) ⟨rfl, rfl, rfl, rfl, rfl, rfl, trivial⟩
   ·skip
    refine Sq.quiet (i := 6) rfl (Want.none rfl) rfl (ltN rfl) (QP.move rfl rfl).read ?_
    refine Sq.skip (i := 7) rfl (Want.no rfl rfl rfl rfl) rfl (ltN rfl) ?_
    refine Sq.skip (i := 8) rfl (Want.no rfl rfl rfl rfl) rfl (ltN rfl) ?_
    refine Sq.skip (i := 9) rfl (Want.no rfl rfl rfl rfl) rfl (ltN rfl) ?_
    refine Sq.skip (i := 10) rfl (Want.no rfl rfl rfl rfl) rfl (ltN rfl) ?_
    refine Sq.quiet (i := 11) rfl (Want.none rfl) rfl (ltN rfl) (QP.pick_f rfl rfl rfl).read ?_
    refine Sq.eff (i := 12) rfl (Want.none rfl) rfl (ltN rfl) (EF.callV rfl rfl ce40 rfl (.cons (by repeat constructor) (.cons (by repeat constructor) Takes.nil)) (fun F' hle hr => least_spec F' _ _ _ _)) ?_
    rintro _ _ ⟨_, rfl, rfl⟩
    refine J.app ?_
    have hA2 : leastF (A1.1, A1.2) x.uniAt (false) = leastF A1 x.uniAt (uOn x) := by rw [show uOn x = false by unfold uOn; rw [decide_eq_false (show ¬ 0 < x.uniGap from c33), Bool.false_and]]
    rw [hA2]
    generalize hB2 : leastF A1 x.uniAt (uOn x) = A2
    refine Sq.nil ?_
    refine hk11 _ _ ?_
    refine Run.region ?_
    show Sq _ _ _ [0, 1, 2, 3, 4, 5, 6] _ _ _ _
    refine Sq.quiet (i := 0) rfl (Want.none rfl) rfl (ltN rfl) (QP.move rfl rfl).read ?_
    refine Sq.quiet (i := 1) rfl (Want.none rfl) rfl (ltN rfl) (QP.fieldAddr rfl rfl f54_9).read ?_
    refine Sq.quiet (i := 2) rfl (Want.none rfl) rfl (ltN rfl) (QR.load1 rfl rfl g3 (Neighbour.sub_txAt _)) ?_
    refine Sq.quiet (i := 3) rfl (Want.none rfl) rfl (ltN rfl) (QP.fieldAddr rfl rfl f54_8).read ?_
    refine Sq.quiet (i := 4) rfl (Want.none rfl) rfl (ltN rfl) (QR.load1 rfl rfl g30 (Neighbour.sub_tx _)) ?_
    refine Sq.quiet (i := 5) rfl (Want.none rfl) rfl (ltN rfl) (QP.neq rfl rfl rfl).read ?_
    refine Sq.eff (i := 6) rfl (Want.none rfl) rfl (ltN rfl) (EF.callV rfl rfl ce40 rfl (.cons (by repeat constructor) (.cons (by repeat constructor) Takes.nil)) (fun F' hle hr => least_spec F' _ _ _ _)) ?_
    rintro _ _ ⟨_, rfl, rfl⟩
    refine J.app ?_
    rw [show leastF (A2.1, A2.2) x.txAt (decide (¬ x.tx = 65535)) = nextS (nextF (L.take i)) x by unfold nextS; rw [hB1, hB2]; rfl, ← nextF_succ hx]
    refine Sq.nil ?_
    refine hk8 _ _ ?_
    refine Run.region ?_
    show Sq _ _ _ [0, 1] _ _ _ _
    refine Sq.quiet (i := 0) rfl (Want.none rfl) rfl (ltN rfl) (QP.add64 rfl rfl rfl (by first | omega | (simp <;> omega)) (by first | omega | (simp <;> omega))).read ?_
    refine Sq.quiet (i := 1) rfl (Want.none rfl) rfl (ltN rfl) (QP.move rfl rfl).read ?_
    refine Sq.nil ?_
    exact J.envJ (J.keep (.cons (by repeat constructor) (.cons (by repeat constructor) (.cons (by repeat constructor) (.cons (by repeat constructor) (.cons (by repeat constructor) (.cons (by repeat constructor) Takes.nil)))))) (hl5 (i + 1) (by omega) (by omega))) ⟨rfl, rfl, rfl, rfl, rfl, rfl, trivial⟩
  ·skip
   refine Sq.quiet (i := 6) rfl (Want.none rfl) rfl (ltN rfl) (QP.move rfl rfl).read ?_
   refine Sq.skip (i := 7) rfl (Want.no rfl rfl rfl rfl) rfl (ltN rfl) ?_
   refine Sq.skip (i := 8) rfl (Want.no rfl rfl rfl rfl) rfl (ltN rfl) ?_
   refine Sq.skip (i := 9) rfl (Want.no rfl rfl rfl rfl) rfl (ltN rfl) ?_
   refine Sq.skip (i := 10) rfl (Want.no rfl rfl rfl rfl) rfl (ltN rfl) ?_
   refine Sq.quiet (i := 11) rfl (Want.none rfl) rfl (ltN rfl) (QP.pick_f rfl rfl rfl).read ?_
   refine Sq.eff (i := 12) rfl (Want.none rfl) rfl (ltN rfl) (EF.callV rfl rfl ce40 rfl (.cons (by repeat constructor) (.cons (by repeat constructor) Takes.nil)) (fun F' hle hr => least_spec F' _ _ _ _)) ?_
   rintro _ _ ⟨_, rfl, rfl⟩
   refine J.app ?_
   have hA1 : leastF ((nextF (L.take i)).1, (nextF (L.take i)).2) x.multiAt (false) = leastF (nextF (L.take i)) x.multiAt (mOn x) := by rw [show mOn x = false by unfold mOn; rw [decide_eq_false (show ¬ 0 < x.multiGap from c20), Bool.false_and]]
   rw [hA1]
   generalize hB1 : leastF (nextF (L.take i)) x.multiAt (mOn x) = A1
   refine Sq.nil ?_
   refine hk10 _ _ ?_
   refine Run.seq fun k12 hk12 => ?_
   refine Run.region ?_
   show Sq _ _ _ [0, 1, 2, 3, 4, 5, 6, 7, 8, 9, 10, 11, 12] _ _ _ _
   refine Sq.quiet (i := 0) rfl (Want.none rfl) rfl (ltN rfl) (QP.move rfl rfl).read ?_
   refine Sq.quiet (i := 1) rfl (Want.none rfl) rfl (ltN rfl) (QP.fieldAddr rfl rfl f54_7).read ?_
   refine Sq.quiet (i := 2) rfl (Want.none rfl) rfl (ltN rfl) (QR.load1 rfl rfl g3 (Neighbour.sub_uniAt _)) ?_
   refine Sq.quiet (i := 3) rfl (Want.none rfl) rfl (ltN rfl) (QP.fieldAddr rfl rfl f54_5).read ?_
   refine Sq.quiet (i := 4) rfl (Want.none rfl) rfl (ltN rfl) (QR.load1 rfl rfl g3 (Neighbour.sub_uniGap _)) ?_
   refine Sq.quiet (i := 5) rfl (Want.none rfl) rfl (ltN rfl) (QP.gtr rfl rfl rfl).read ?_
   refine J.caseD (fun c33 => ?_) (fun c33 => ?_)
   ·skip
    refine Sq.quiet (i := 6) rfl (Want.none rfl) rfl (ltN rfl) (QP.move rfl rfl).read ?_
    refine Sq.quiet (i := 7) rfl (Want.yes rfl rfl rfl rfl) rfl (ltN rfl) (QP.fieldAddr rfl rfl f54_3).read ?_
    refine Sq.quiet (i := 8) rfl (Want.yes rfl rfl rfl rfl) rfl (ltN rfl) (QP.fieldAddr rfl rfl f51_0).read ?_
    refine Sq.quiet (i := 9) rfl (Want.yes rfl rfl rfl rfl) rfl (ltN rfl) (QR.load1 rfl rfl g30 ((Neighbour.sub_uni _).trans (History.sub_bits _))) ?_
    refine Sq.quiet (i := 10) rfl (Want.yes rfl rfl rfl rfl) rfl (ltN rfl) (QP.neq rfl rfl rfl).read ?_
    refine Sq.quiet (i := 11) rfl (Want.none rfl) rfl (ltN rfl) (QP.pick_t rfl rfl rfl).read ?_
    refine Sq.eff (i := 12) rfl (Want.none rfl) rfl (ltN rfl) (EF.callV rfl rfl ce40 rfl (.cons (by repeat constructor) (.cons (by repeat constructor) Takes.nil)) (fun F' hle hr => least_spec F' _ _ _ _)) ?_
    rintro _ _ ⟨_, rfl, rfl⟩
    refine J.app ?_
    have hA2 : leastF (A1.1, A1.2) x.uniAt (decide (¬ x.uni.bits = 0)) = leastF A1 x.uniAt (uOn x) := by rw [show uOn x = decide (¬ x.uni.bits = 0) by unfold uOn; rw [decide_eq_true (show 0 < x.uniGap from c33), Bool.true_and]]
    rw [hA2]
    generalize hB2 : leastF A1 x.uniAt (uOn x) = A2
    refine Sq.nil ?_
    refine hk12 _ _ ?_
    refine Run.region ?_
    show Sq _ _ _ [0, 1, 2, 3, 4, 5, 6] _ _ _ _
    refine Sq.quiet (i := 0) rfl (Want.none rfl) rfl (ltN rfl) (QP.move rfl rfl).read ?_
    refine Sq.quiet (i := 1) rfl (Want.none rfl) rfl (ltN rfl) (QP.fieldAddr rfl rfl f54_9).read ?_
    refine Sq.quiet (i := 2) rfl (Want.none rfl) rfl (ltN rfl) (QR.load1 rfl rfl g3 (Neighbour.sub_txAt _)) ?_
    refine Sq.quiet (i := 3) rfl (Want.none rfl) rfl (ltN rfl) (QP.fieldAddr rfl rfl f54_8).read ?_
    refine Sq.quiet (i := 4) rfl (Want.none rfl) rfl (ltN rfl) (QR.load1 rfl rfl g30 (Neighbour.sub_tx _)) ?_
    refine Sq.quiet (i := 5) rfl (Want.none rfl) rfl (ltN rfl) (QP.neq rfl rfl rfl).read ?_
    refine Sq.eff (i := 6) rfl (Want.none rfl) rfl (ltN rfl) (EF.callV rfl rfl ce40 rfl (.cons (by repeat constructor) (.cons (by repeat constructor) Takes.nil)) (fun F' hle hr => least_spec F' _ _ _ _)) ?_
    rintro _ _ ⟨_, rfl, rfl⟩
    refine J.app ?_
    rw [show leastF (A2.1, A2.2) x.txAt (decide (¬ x.tx = 65535)) = nextS (nextF (L.take i)) x by unfold nextS; rw [hB1, hB2]; rfl, ← nextF_succ hx]
    refine Sq.nil ?_
    refine hk8 _ _ ?_
    refine Run.region ?_
    show Sq _ _ _ [0, 1] _ _ _ _
    refine Sq.quiet (i := 0) rfl (Want.none rfl) rfl (ltN rfl) (QP.add64 rfl rfl rfl (by first | omega | (simp <;> omega)) (by first | omega | (simp <;> omega))).read ?_
    refine Sq.quiet (i := 1) rfl (Want.none rfl) rfl (ltN rfl) (QP.move rfl rfl).read ?_
    refine Sq.nil ?_
    exact J.envJ (J.keep (.cons (by repeat constructor) (.cons (by repeat constructor) (.cons (by repeat constructor) (.cons (by repeat constructor) (.cons (by repeat constructor) (.cons (by repeat constructor) Takes.nil)))))) (hl5 (i + 1) (by omega) (by omega))) ⟨rfl, rfl, rfl, rfl, rfl, rfl, trivial⟩
   ·skip
    refine Sq.quiet (i := 6) rfl (Want.none rfl) rfl (ltN rfl) (QP.move rfl rfl).read ?_
    refine Sq.skip (i := 7) rfl (Want.no rfl rfl rfl rfl) rfl (ltN rfl) ?_
    refine Sq.skip (i := 8) rfl (Want.no rfl rfl rfl rfl) rfl (ltN rfl) ?_
    refine Sq.skip (i := 9) rfl (Want.no rfl rfl rfl rfl) rfl (ltN rfl) ?_
    refine Sq.skip (i := 10) rfl (Want.no rfl rfl rfl rfl) rfl (ltN rfl) ?_
    refine Sq.quiet (i := 11) rfl (Want.none rfl) rfl (ltN rfl) (QP.pick_f rfl rfl rfl).read ?_
    refine Sq.eff (i := 12) rfl (Want.none rfl) rfl (ltN rfl) (EF.callV rfl rfl ce40 rfl (.cons (by repeat constructor) (.cons (by repeat constructor) Takes.nil)) (fun F' hle hr => least_spec F' _ _ _ _)) ?_
    rintro _ _ ⟨_, rfl, rfl⟩
    refine J.app ?_
    have hA2 : leastF (A1.1, A1.2) x.uniAt (false) = leastF A1 x.uniAt (uOn x) := by rw [show uOn x = false by unfold uOn; rw [decide_eq_false (show ¬ 0 < x.uniGap from c33), Bool.false_and]]
    rw [hA2]
    generalize hB2 : leastF A1 x.uniAt (uOn x) = A2
    refine Sq.nil ?_
    refine hk12 _ _ ?_
    refine Run.region ?_
    show Sq _ _ _ [0, 1, 2, 3, 4, 5, 6] _ _ _ _
    refine Sq.quiet (i := 0) rfl (Want.none rfl) rfl (ltN rfl) (QP.move rfl rfl).read ?_
    refine Sq.quiet (i := 1) rfl (Want.none rfl) rfl (ltN rfl) (QP.fieldAddr rfl rfl f54_9).read ?_
    refine Sq.quiet (i := 2) rfl (Want.none rfl) rfl (ltN rfl) (QR.load1 rfl rfl g3 (Neighbour.sub_txAt _)) ?_
    refine Sq.quiet (i := 3) rfl (Want.none rfl) rfl (ltN rfl) (QP.fieldAddr rfl rfl f54_8).read ?_
    refine Sq.quiet (i := 4) rfl (Want.none rfl) rfl (ltN rfl) (QR.load1 rfl rfl g30 (Neighbour.sub_tx _)) ?_
    refine Sq.quiet (i := 5) rfl (Want.none rfl) rfl (ltN rfl) (QP.neq rfl rfl rfl).read ?_
    refine Sq.eff (i := 6) rfl (Want.none rfl) rfl (ltN rfl) (EF.callV rfl rfl ce40 rfl (.cons (by repeat constructor) (.cons (by repeat constructor) Takes.nil)) (fun F' hle hr => least_spec F' _ _ _ _)) ?_
    rintro _ _ ⟨_, rfl, rfl⟩
    refine J.app ?_
    rw [show leastF (A2.1, A2.2) x.txAt (decide (¬ x.tx = 65535)) = nextS (nextF (L.take i)) x by unfold nextS; rw [hB1, hB2]; rfl, ← nextF_succ hx]
    refine Sq.nil ?_
    refine hk8 _ _ ?_
    refine Run.region ?_
    show Sq _ _ _ [0, 1] _ _ _ _
    refine Sq.quiet (i := 0) rfl (Want.none rfl) rfl (ltN rfl) (QP.add64 rfl rfl rfl (by first | omega | (simp <;> omega)) (by first | omega | (simp <;> omega))).read ?_
    refine Sq.quiet (i := 1) rfl (Want.none rfl) rfl (ltN rfl) (QP.move rfl rfl).read ?_
    refine Sq.nil ?_
    exact J.envJ (J.keep (.cons (by repeat constructor) (.cons (by repeat constructor) (.cons (by repeat constructor) (.cons (by repeat constructor) (.cons (by repeat constructor) (.cons (by repeat constructor) Takes.nil)))))) (hl5 (i + 1) (by omega) (by omega))) ⟨rfl, rfl, rfl, rfl, rfl, rfl, trivial⟩
 ·skip
  refine Sq.nil ?_
  refine hk6 _ _ ?_
  refine Run.seq fun k13 hk13 => ?_
  refine Run.cond_f rfl ?_
  refine Run.exit rfl ?_
  refine hk3 _ _ ?_
  refine Run.seq fun k14 hk14 => ?_
  refine Run.regionM (M := [0, 0, 1, 7]) (q := 3) (r := 3) mixedT (by kernel_rfl) ?_
  refine Dw.read (i := 0) rfl (by kernel_rfl) (Want.none rfl) rfl (ltN rfl) (QR.load1 rfl rfl g3 SubL.one) ?_
  refine Dw.read (i := 1) rfl (by kernel_rfl) (Want.none rfl) rfl (ltN rfl) (QR.load1 rfl rfl g4 SubL.one) ?_
  refine Dw.eff (i := 2) (by kernel_rfl) (by kernel_rfl) ?_
  refine One.act (o := _) (l := [1]) rfl (by kernel_rfl) (Want.none rfl) rfl (EF.store rfl rfl rfl z3 SetL.one (cell_one rfl)) (by kernel_rfl) ?_
  rintro _ _ rfl
  refine ⟨?_, ?_⟩
  ·rw [List.forall_mem_cons]
   refine ⟨?_, fun _ h => (by cases h)⟩
   ·exact Look.mk rfl rfl rfl (QR.load1 rfl rfl g4 SubL.one)
  refine ?_
  refine Dw.eff (i := 3) (by kernel_rfl) (by kernel_rfl) ?_
  refine One.act (o := _) (l := []) rfl (by kernel_rfl) (Want.none rfl) rfl (EF.store rfl rfl rfl z4 SetL.one (cell_one rfl)) (by kernel_rfl) ?_
  rintro _ _ rfl
  refine ⟨fun _ h => (by cases h), ?_⟩
  refine Dw.nil (by kernel_rfl) ?_
  refine hk14 _ _ ?_
  refine Run.ret ?_
  have htl : L.take i = L := List.take_of_length_le (by omega)
  rw [htl]
  exact J.ends (res_cell11 rfl rfl rfl g3 g4) (.cons (by repeat constructor) (.cons (by repeat constructor) (.cons (by repeat constructor) Takes.nil))) ⟨r, E, es, L, hv, hn, hp, hL, hs, rfl, rfl⟩

theorem tickQ_nil (F : Fr) (now : Int) : Spec Try.prog 12 #[.pointer none, .int .i64 now] [] F (fun v S => v = .slice none 0 0 ∧ S = []) := by
 refine Spec.intro (N := 87) (args := [.pointer none, .int .i64 now]) Try.func12 rfl rfl (by simp) ?_
 refine Run.seq fun k1 hk1 => ?_
 refine Run.region ?_
 show Sq _ _ _ [0] _ _ _ _
 refine Sq.quiet (i := 0) rfl (Want.none rfl) rfl (ltN rfl) (QP.assign rfl rfl).read ?_
 refine Sq.nil ?_
 refine hk1 _ _ ?_
 refine Run.seq fun k2 hk2 => ?_
 refine Run.seq fun k3 hk3 => ?_
 refine Run.region ?_
 show Sq _ _ _ [0, 1, 2, 3] _ _ _ _
 refine Sq.quiet (i := 0) rfl (Want.none rfl) rfl (ltN rfl) (QP.move rfl rfl).read ?_
 refine Sq.eff (i := 1) rfl (Want.none rfl) rfl (ltN rfl) (EF.call rfl ce13 rfl Takes.nil (fun F' hle hr => listQ_nil F')) ?_
 rintro _ _ ⟨_, ⟨rfl, rfl⟩, rfl⟩
 refine J.app ?_
 refine Sq.quiet (i := 2) rfl (Want.none rfl) rfl (ltN rfl) (QP.len rfl rfl rfl Try.underlying44).read ?_
 refine Sq.quiet (i := 3) rfl (Want.none rfl) rfl (ltN rfl) (QP.move rfl rfl).read ?_
 refine Sq.nil ?_
 refine hk3 _ _ ?_
 refine Run.block ?_
 refine Run.loop1 (fun (u : Unit) => True) (fun u => .cons 4 (.slice none 0 0) (.cons 9 (.slice none 0 0) (.cons 10 (.int .i64 0) (.cons 11 (.int .i64 0) (.nil))))) (fun u => []) (fun u => 0) (()) (trivial) ?_ ?_
 ·exact fun _ j => J.envJ (J.keep Takes.nil j) ⟨rfl, rfl, rfl, rfl, trivial⟩
 rintro u _ kl4 hl4
 refine Run.seq fun k5 hk5 => ?_
 refine Run.region ?_
 show Sq _ _ _ [0] _ _ _ _
 refine Sq.quiet (i := 0) rfl (Want.none rfl) rfl (ltN rfl) (QP.lss rfl rfl rfl).read ?_
 refine Sq.nil ?_
 refine hk5 _ _ ?_
 refine Run.seq fun k6 hk6 => ?_
 refine Run.cond_f rfl ?_
 refine Run.exit rfl ?_
 refine hk2 _ _ ?_
 refine Run.seq fun k7 hk7 => ?_
 refine Run.region ?_
 show Sq _ _ _ [0, 1] _ _ _ _
 refine Sq.quiet (i := 0) rfl (Want.none rfl) rfl (ltN rfl) (QP.move rfl rfl).read ?_
 refine Sq.quiet (i := 1) rfl (Want.none rfl) rfl (ltN rfl) (QP.assign rfl rfl).read ?_
 refine Sq.nil ?_
 refine hk7 _ _ ?_
 refine Run.ret ?_
 exact J.ends (res_tmp rfl rfl) Takes.nil ⟨rfl, rfl⟩

theorem dropQ_nil (F : Fr) {a : Option Addr} {n c : Nat} : Spec Try.prog 21 #[.pointer none, .slice a n c] [] F (fun v S => v = .int .i64 0 ∧ S = []) := by
 refine Spec.intro (N := 31) (args := [.pointer none, .slice a n c]) Try.func21 rfl rfl (by simp) ?_
 refine Run.seq fun k1 hk1 => ?_
 refine Run.region ?_
 show Sq _ _ _ [0] _ _ _ _
 refine Sq.quiet (i := 0) rfl (Want.none rfl) rfl (ltN rfl) (QP.assign rfl rfl).read ?_
 refine Sq.nil ?_
 refine hk1 _ _ ?_
 refine Run.seq fun k2 hk2 => ?_
 refine Run.seq fun k3 hk3 => ?_
 refine Run.region ?_
 show Sq _ _ _ [0, 1, 2, 3] _ _ _ _
 refine Sq.quiet (i := 0) rfl (Want.none rfl) rfl (ltN rfl) (QP.move rfl rfl).read ?_
 refine Sq.eff (i := 1) rfl (Want.none rfl) rfl (ltN rfl) (EF.call rfl ce13 rfl Takes.nil (fun F' hle hr => listQ_nil F')) ?_
 rintro _ _ ⟨_, ⟨rfl, rfl⟩, rfl⟩
 refine J.app ?_
 refine Sq.quiet (i := 2) rfl (Want.none rfl) rfl (ltN rfl) (QP.len rfl rfl rfl Try.underlying44).read ?_
 refine Sq.quiet (i := 3) rfl (Want.none rfl) rfl (ltN rfl) (QP.move rfl rfl).read ?_
 refine Sq.nil ?_
 refine hk3 _ _ ?_
 refine Run.block ?_
 refine Run.loop1 (fun (u : Unit) => True) (fun u => .cons 4 (.int .i64 0) (.cons 8 (.slice none 0 0) (.cons 9 (.int .i64 0) (.cons 10 (.int .i64 0) (.nil))))) (fun u => []) (fun u => 0) (()) (trivial) ?_ ?_
 ·exact fun _ j => J.envJ (J.keep Takes.nil j) ⟨rfl, rfl, rfl, rfl, trivial⟩
 rintro u _ kl4 hl4
 refine Run.seq fun k5 hk5 => ?_
 refine Run.region ?_
 show Sq _ _ _ [0] _ _ _ _
 refine Sq.quiet (i := 0) rfl (Want.none rfl) rfl (ltN rfl) (QP.lss rfl rfl rfl).read ?_
 refine Sq.nil ?_
 refine hk5 _ _ ?_
 refine Run.seq fun k6 hk6 => ?_
 refine Run.cond_f rfl ?_
 refine Run.exit rfl ?_
 refine hk2 _ _ ?_
 refine Run.seq fun k7 hk7 => ?_
 refine Run.region ?_
 show Sq _ _ _ [0, 1] _ _ _ _
 refine Sq.quiet (i := 0) rfl (Want.none rfl) rfl (ltN rfl) (QP.move rfl rfl).read ?_
 refine Sq.quiet (i := 1) rfl (Want.none rfl) rfl (ltN rfl) (QP.assign rfl rfl).read ?_
 refine Sq.nil ?_
 refine hk7 _ _ ?_
 refine Run.ret ?_
 exact J.ends (res_tmp rfl rfl) Takes.nil ⟨rfl, rfl⟩

theorem nextQ_nil (F : Fr)  : Spec Try.prog 19 #[.pointer none] [] F (fun v S => v = .tuple #[.int .i64 0, .bool false] ∧ S = []) := by
 refine Spec.intro (N := 51) (args := [.pointer none]) Try.func19 rfl rfl (by simp) ?_
 refine Run.seq fun k1 hk1 => ?_
 refine Run.region ?_
 show Sq _ _ _ [0, 1] _ _ _ _
 refine Sq.eff (i := 0) rfl (Want.none rfl) rfl (ltN rfl) (EF.alloc1 rfl zero3 rfl) ?_
 rintro _ _ ⟨b2, rfl, rfl⟩
 refine Sq.eff (i := 1) rfl (Want.none rfl) rfl (ltN rfl) (EF.alloc1 rfl zero4 rfl) ?_
 rintro _ _ ⟨b3, rfl, rfl⟩
 refine Sq.nil ?_
 refine hk1 _ _ ?_
 refine Run.seq fun k2 hk2 => ?_
 refine Run.region ?_
 show Sq _ _ _ [0, 1] _ _ _ _
 refine Sq.quiet (i := 0) rfl (Want.none rfl) rfl (ltN rfl) (QP.makeFunc rfl rfl).read ?_
 refine Sq.quiet (i := 1) rfl (Want.none rfl) rfl (ltN rfl) (QP.assign rfl rfl).read ?_
 refine Sq.nil ?_
 refine hk2 _ _ ?_
 refine Run.seq fun k3 hk3 => ?_
 refine Run.seq fun k4 hk4 => ?_
 refine Run.region ?_
 show Sq _ _ _ [0, 1, 2, 3] _ _ _ _
 refine Sq.quiet (i := 0) rfl (Want.none rfl) rfl (ltN rfl) (QP.move rfl rfl).read ?_
 refine Sq.eff (i := 1) rfl (Want.none rfl) rfl (ltN rfl) (EF.call rfl ce13 rfl Takes.nil (fun F' hle hr => listQ_nil F')) ?_
 rintro _ _ ⟨_, ⟨rfl, rfl⟩, rfl⟩
 refine J.app ?_
 refine Sq.quiet (i := 2) rfl (Want.none rfl) rfl (ltN rfl) (QP.len rfl rfl rfl Try.underlying44).read ?_
 refine Sq.quiet (i := 3) rfl (Want.none rfl) rfl (ltN rfl) (QP.move rfl rfl).read ?_
 refine Sq.nil ?_
 refine hk4 _ _ ?_
 refine Run.block ?_
 refine Run.loop1 (fun (u : Unit) => True) (fun u => .cons 2 (.pointer (some ⟨b2, 0, none⟩)) (.cons 3 (.pointer (some ⟨b3, 0, none⟩)) (.cons 9 (.slice none 0 0) (.cons 10 (.int .i64 0) (.cons 11 (.int .i64 0) (.nil)))))) (fun u => [blk b3 [.bool false] 4, blk b2 [.int .i64 0] 3]) (fun u => 0) (()) (trivial) ?_ ?_
 ·exact fun _ j => J.envJ (J.keep (.cons (by repeat constructor) (.cons (by repeat constructor) Takes.nil)) j) ⟨rfl, rfl, rfl, rfl, rfl, trivial⟩
 rintro u _ kl5 hl5
 refine Run.seq fun k6 hk6 => ?_
 refine Run.region ?_
 show Sq _ _ _ [0] _ _ _ _
 refine Sq.quiet (i := 0) rfl (Want.none rfl) rfl (ltN rfl) (QP.lss rfl rfl rfl).read ?_
 refine Sq.nil ?_
 refine hk6 _ _ ?_
 refine Run.seq fun k7 hk7 => ?_
 refine Run.cond_f rfl ?_
 refine Run.exit rfl ?_
 refine hk3 _ _ ?_
 refine Run.seq fun k8 hk8 => ?_
 refine Run.regionM (M := [0, 0, 1, 7]) (q := 3) (r := 3) mixedT (by kernel_rfl) ?_
 refine Dw.read (i := 0) rfl (by kernel_rfl) (Want.none rfl) rfl (ltN rfl) (QR.load1 rfl rfl g3 SubL.one) ?_
 refine Dw.read (i := 1) rfl (by kernel_rfl) (Want.none rfl) rfl (ltN rfl) (QR.load1 rfl rfl g4 SubL.one) ?_
 refine Dw.eff (i := 2) (by kernel_rfl) (by kernel_rfl) ?_
 refine One.act (o := _) (l := [1]) rfl (by kernel_rfl) (Want.none rfl) rfl (EF.store rfl rfl rfl z3 SetL.one (cell_one rfl)) (by kernel_rfl) ?_
 rintro _ _ rfl
 refine ⟨?_, ?_⟩
 ·rw [List.forall_mem_cons]
  refine ⟨?_, fun _ h => (by cases h)⟩
  ·exact Look.mk rfl rfl rfl (QR.load1 rfl rfl g4 SubL.one)
 refine ?_
 refine Dw.eff (i := 3) (by kernel_rfl) (by kernel_rfl) ?_
 refine One.act (o := _) (l := []) rfl (by kernel_rfl) (Want.none rfl) rfl (EF.store rfl rfl rfl z4 SetL.one (cell_one rfl)) (by kernel_rfl) ?_
 rintro _ _ rfl
 refine ⟨fun _ h => (by cases h), ?_⟩
 refine Dw.nil (by kernel_rfl) ?_
 refine hk8 _ _ ?_
 refine Run.ret ?_
 exact J.ends (res_cell11 rfl rfl rfl g3 g4) Takes.nil ⟨rfl, rfl⟩
end Slb
