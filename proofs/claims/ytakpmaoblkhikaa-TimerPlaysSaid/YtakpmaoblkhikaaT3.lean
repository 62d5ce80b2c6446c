/- T3: a part of the proof that a law of this package holds for every input; no condition. -/
import Derived.Test.YtakpmaoblkhikaaT2
import Derived.Test.YtakpmaoblkhikaaM2
namespace Slb
open Go Go.Proofs
set_option maxRecDepth 20000
theorem pushR (F : Fr) {b r : Nat} {a : Option Addr} {c : Nat} {es : List Ent} (hN : es.length ≤ 1000000) {c0 : Nat} (o : TimerOne) : Spec Try.prog 78 #[.pointer (some ⟨b, 0, none⟩), .iface 64 (.pointer (some ⟨c0, 0, none⟩))] [qB b r a c es, arrA a c es, blk c0 (TimerOne.enc o) 67] F (fun v S => ∃ a2 c2, S = [qB b r a2 c2 (es ++ [(c0, { o with place := (es.length : Int) })]), arrA a2 c2 (es ++ [(c0, { o with place := (es.length : Int) })]), blk c0 (TimerOne.enc { o with place := (es.length : Int) }) 67]) := by
 have hbl := bs_len es
 refine Spec.intro (N := 22) (args := [.pointer (some ⟨b, 0, none⟩), .iface 64 (.pointer (some ⟨c0, 0, none⟩))]) Try.func78 rfl rfl (by simp) ?_
 refine Run.seq fun k1 hk1 => ?_
 refine Run.region ?_
 show Sq _ _ _ [0, 1, 2] _ _ _ _
 refine Sq.quiet (i := 0) rfl (Want.none rfl) rfl (ltN rfl) (QP.move rfl rfl).read ?_
 refine Sq.eff (i := 1) rfl (Want.none rfl) rfl (ltN rfl) ((QP.typeAssert rfl rfl Try.underlying64 (fun l h => by cases h)).eff) ?_
 rintro _ _ ⟨rfl, rfl⟩
 refine Sq.quiet (i := 2) rfl (Want.none rfl) rfl (ltN rfl) (QP.assign rfl rfl).read ?_
 refine Sq.nil ?_
 refine hk1 _ _ ?_
 refine Run.seq fun k2 hk2 => ?_
 refine Run.region ?_
 show Sq _ _ _ [0, 1, 2, 3, 4, 5, 6, 7] _ _ _ _
 refine Sq.quiet (i := 0) rfl (Want.none rfl) rfl (ltN rfl) (QP.move rfl rfl).read ?_
 refine Sq.quiet (i := 1) rfl (Want.none rfl) rfl (ltN rfl) (QP.move rfl rfl).read ?_
 refine Sq.quiet (i := 2) rfl (Want.none rfl) rfl (ltN rfl) (QP.nilCheck rfl rfl).read ?_
 refine Sq.quiet (i := 3) rfl (Want.none rfl) rfl (ltN rfl) (QR.load1 (v := .slice a (bsOf es).length c) rfl rfl g61 (TimerQueue.sub_row _)) ?_
 refine Sq.quiet (i := 4) rfl (Want.none rfl) rfl (ltN rfl) (QP.len rfl rfl rfl Try.underlying61).read ?_
 rw [hbl]
 refine Sq.quiet (i := 5) rfl (Want.none rfl) rfl (ltN rfl) (QP.nilCheck rfl rfl).read ?_
 refine Sq.quiet (i := 6) rfl (Want.none rfl) rfl (ltN rfl) (QP.fieldAddr rfl rfl f67_1).read ?_
 refine Sq.act (i := 7) rfl (Want.none rfl) rfl (EF.store rfl rfl rfl z3 (TimerOne.set_place _ _) (cell_one rfl)) ?_
 rintro _ _ rfl
 refine Sq.nil ?_
 refine hk2 _ _ ?_
 refine Run.region ?_
 show Sq _ _ _ [0, 1, 2, 3, 4, 5, 6, 7, 8] _ _ _ _
 refine Sq.quiet (i := 0) rfl (Want.none rfl) rfl (ltN rfl) (QP.move rfl rfl).read ?_
 refine Sq.quiet (i := 1) rfl (Want.none rfl) rfl (ltN rfl) (QP.move rfl rfl).read ?_
 refine Sq.quiet (i := 2) rfl (Want.none rfl) rfl (ltN rfl) (QP.nilCheck rfl rfl).read ?_
 refine Sq.quiet (i := 3) rfl (Want.none rfl) rfl (ltN rfl) (QR.load1 (v := .slice a (bsOf es).length c) rfl rfl g61 (TimerQueue.sub_row _)) ?_
 refine Sq.quiet (i := 4) rfl (Want.none rfl) rfl (ltN rfl) (QP.move rfl rfl).read ?_
 refine Sq.eff (i := 5) rfl (Want.none rfl) rfl (ltN rfl) (EF.buildSliceS rfl Try.underlying61 z64 zero64 rfl (by decide) rfl rfl rfl rfl) ?_
 rintro _ _ ⟨b19, rfl, rfl⟩
 refine Sq.eff (i := 6) rfl (Want.none rfl) rfl (ltN rfl) (EF.append1 (xs := (bsOf es)) (s := c0) el64 (fun _ => rfl) (fun _ => cell_one rfl) rfl rfl rfl Try.underlying61 Try.underlying61 rfl rfl (by repeat constructor) (by repeat constructor) (by first | omega | (simp <;> omega))) ?_
 rintro sl20 _ rfl
 refine Sq.slCase (v := sl20) (by repeat constructor) (fun a20 c20 hv20 hh20 => ?_)
 subst hv20
 refine Sq.quiet (i := 7) rfl (Want.none rfl) rfl (ltN rfl) (QP.nilCheck rfl rfl).read ?_
 refine Sq.act (i := 8) rfl (Want.none rfl) rfl (EF.store rfl rfl rfl z61 (TimerQueue.set_row _ ⟨a20, _, c20⟩) (cell_one rfl)) ?_
 rintro _ _ rfl
 refine Sq.nil ?_
 have e1 : bsOf (es ++ [(c0, { o with place := (es.length : Int) })]) = bsOf es ++ [c0] := by simp [bsOf]
 exact J.ends (m := [blk b (TimerQueue.enc ⟨⟨a20, (bsOf es ++ [c0]).length, c20⟩, some r⟩) 63, slA 64 1 pvN (.slice a20 (bsOf es ++ [c0]).length c20) (bsOf es ++ [c0]), blk c0 (TimerOne.enc { o with place := (es.length : Int) }) 67]) (res_none rfl) (.cons (by repeat constructor) (.cons (by repeat constructor) (.cons (by repeat constructor) Takes.nil))) ⟨a20, c20, by unfold qB arrA; rw [e1]⟩

theorem arr_pop {a : Option Addr} {c : Nat} {es : List Ent} {x : Ent} {h : PH} (g : stars [arrA a c (es ++ [x])] h) : arrA a c es h := by
  have hbl : (bsOf (es ++ [x])).length = es.length + 1 := by simp [bsOf]
  have hbl2 := bs_len es
  have g2 := slA_shrink (enc := pvN) (z := 1) (xs := bsOf (es ++ [x])) (i := (bsOf es).length) (fun _ => rfl) (by rw [hbl, hbl2]; omega) (of_star_emp g)
  rw [show (bsOf (es ++ [x])).take (bsOf es).length = bsOf es by unfold bsOf; rw [List.map_append, List.take_left]] at g2
  exact g2

theorem popR (F : Fr) {b r : Nat} {a : Option Addr} {c : Nat} {es : List Ent} {x : Ent} (hN : es.length ≤ 1000000) : Spec Try.prog 77 #[.pointer (some ⟨b, 0, none⟩)] [qB b r a c (es ++ [x]), arrA a c (es ++ [x])] F (fun v S => v = .iface 64 (.pointer (some ⟨x.1, 0, none⟩)) ∧ S = [qB b r a c es, arrA a c es]) := by
 have hbl : (bsOf (es ++ [x])).length = es.length + 1 := by simp [bsOf]
 have hbl2 := bs_len es
 have hx : (bsOf (es ++ [x]))[Int.toNat (((bsOf (es ++ [x])).length : Int) - 1)]? = some x.1 := by rw [hbl, show Int.toNat (((es.length + 1 : Nat) : Int) - 1) = es.length by omega]; unfold bsOf; rw [List.getElem?_map, List.getElem?_append_right (by omega)]; simp
 refine Spec.intro (N := 23) (args := [.pointer (some ⟨b, 0, none⟩)]) Try.func77 rfl rfl (by simp) ?_
 refine Run.seq fun k1 hk1 => ?_
 refine Run.region ?_
 show Sq _ _ _ [0] _ _ _ _
 refine J.slCase (v := .slice a (bsOf (es ++ [x])).length c) (xs := bsOf (es ++ [x])) (by repeat constructor) (fun a1 c1 hv1 hh1 => ?_)
 cases hv1
 have hlec := hh1.le
 obtain ⟨b0, o0, rfl⟩ := hh1.get (by omega)
 refine Sq.quiet (i := 0) rfl (Want.none rfl) rfl (ltN rfl) (QP.assign rfl rfl).read ?_
 refine Sq.nil ?_
 refine hk1 _ _ ?_
 refine Run.seq fun k2 hk2 => ?_
 refine Run.region ?_
 show Sq _ _ _ [0, 1, 2, 3] _ _ _ _
 refine Sq.quiet (i := 0) rfl (Want.none rfl) rfl (ltN rfl) (QP.move rfl rfl).read ?_
 refine Sq.quiet (i := 1) rfl (Want.none rfl) rfl (ltN rfl) (QP.nilCheck rfl rfl).read ?_
 refine Sq.quiet (i := 2) rfl (Want.none rfl) rfl (ltN rfl) (QR.load1 (v := .slice (some ⟨b0, o0, none⟩) (bsOf (es ++ [x])).length c) rfl rfl g61 (TimerQueue.sub_row _)) ?_
 refine Sq.quiet (i := 3) rfl (Want.none rfl) rfl (ltN rfl) (QP.assign rfl rfl).read ?_
 refine Sq.nil ?_
 refine hk2 _ _ ?_
 refine Run.seq fun k3 hk3 => ?_
 refine Run.region ?_
 show Sq _ _ _ [0, 1, 2, 3, 4, 5, 6] _ _ _ _
 refine Sq.quiet (i := 0) rfl (Want.none rfl) rfl (ltN rfl) (QP.move rfl rfl).read ?_
 refine Sq.quiet (i := 1) rfl (Want.none rfl) rfl (ltN rfl) (QP.move rfl rfl).read ?_
 refine Sq.quiet (i := 2) rfl (Want.none rfl) rfl (ltN rfl) (QP.len rfl rfl rfl Try.underlying61).read ?_
 refine Sq.quiet (i := 3) rfl (Want.none rfl) rfl (ltN rfl) (QP.sub64 rfl rfl rfl (by first | omega | (simp <;> omega)) (by first | omega | (simp <;> omega))).read ?_
 refine Sq.quiet (i := 4) rfl (Want.none rfl) rfl (ltN rfl) (QP.indexAddr rfl rfl rfl Try.underlying61 z64 (by first | omega | (simp <;> omega)) (by first | omega | (simp <;> omega))).read ?_
 refine Sq.quiet (i := 5) rfl (Want.none rfl) rfl (ltN rfl) (QR.loadSl1 (ev := pv) rfl rfl g64 (SlAt.own (enc := pvN) (fun _ => rfl) (by repeat constructor)) hx) ?_
 refine Sq.quiet (i := 6) rfl (Want.none rfl) rfl (ltN rfl) (QP.assign rfl rfl).read ?_
 refine Sq.nil ?_
 refine hk3 _ _ ?_
 refine Run.seq fun k4 hk4 => ?_
 refine Run.region ?_
 show Sq _ _ _ [0, 1, 2, 3, 4, 5, 6, 7] _ _ _ _
 refine Sq.quiet (i := 0) rfl (Want.none rfl) rfl (ltN rfl) (QP.move rfl rfl).read ?_
 refine Sq.quiet (i := 1) rfl (Want.none rfl) rfl (ltN rfl) (QP.move rfl rfl).read ?_
 refine Sq.quiet (i := 2) rfl (Want.none rfl) rfl (ltN rfl) (QP.move rfl rfl).read ?_
 refine Sq.quiet (i := 3) rfl (Want.none rfl) rfl (ltN rfl) (QP.len rfl rfl rfl Try.underlying61).read ?_
 refine Sq.quiet (i := 4) rfl (Want.none rfl) rfl (ltN rfl) (QP.sub64 rfl rfl rfl (by first | omega | (simp <;> omega)) (by first | omega | (simp <;> omega))).read ?_
 refine Sq.quiet (i := 5) rfl (Want.none rfl) rfl (ltN rfl) (QP.sliceHi rfl rfl rfl Try.underlying61 z64 (by first | omega | (simp <;> omega)) (by first | omega | (simp <;> omega))).read ?_
 rw [show (((bsOf (es ++ [x])).length : Int) - 1).toNat - 0 = (bsOf es).length by rw [hbl, hbl2]; omega]
 rw [SlH.off hh1 1, Nat.sub_zero]
 refine Sq.quiet (i := 6) rfl (Want.none rfl) rfl (ltN rfl) (QP.nilCheck rfl rfl).read ?_
 refine Sq.act (i := 7) rfl (Want.none rfl) rfl (EF.store rfl rfl rfl z61 (TimerQueue.set_row _ ⟨some ⟨b0, o0, none⟩, (bsOf es).length, c⟩) (cell_one rfl)) ?_
 rintro _ _ rfl
 refine Sq.nil ?_
 refine hk4 _ _ ?_
 refine Run.seq fun k5 hk5 => ?_
 refine Run.region ?_
 show Sq _ _ _ [0, 1, 2] _ _ _ _
 refine Sq.quiet (i := 0) rfl (Want.none rfl) rfl (ltN rfl) (QP.move rfl rfl).read ?_
 refine Sq.quiet (i := 1) rfl (Want.none rfl) rfl (ltN rfl) (QP.makeIface rfl rfl Try.underlying64 (fun l h => by cases h)).read ?_
 refine Sq.quiet (i := 2) rfl (Want.none rfl) rfl (ltN rfl) (QP.assign rfl rfl).read ?_
 refine Sq.nil ?_
 refine hk5 _ _ ?_
 refine Run.ret ?_
 refine J.close (A := arrA (some ⟨b0, o0, none⟩) c es) (m := [arrA (some ⟨b0, o0, none⟩) c (es ++ [x])]) (.cons (by repeat constructor) Takes.nil) (fun _ g => arr_pop g) ?_
 exact J.ends (res_tmp rfl rfl) (.cons (by repeat constructor) (.cons (by repeat constructor) Takes.nil)) ⟨rfl, rfl⟩

theorem up_spec (F : Fr) {b r : Nat} {a : Option Addr} {c : Nat} {es0 : List Ent} (n : Nat) (hn : n ≤ es0.length) (hN : es0.length ≤ 1000000) (hp : PlacedE es0) (j0 : Nat) (hj : j0 < n) (hu : UpP n (fD es0) j0) : Spec Try.prog 34 #[.iface 69 (.pointer (some ⟨b, 0, none⟩)), .int .i64 (j0 : Int)] [qB b r a c es0, arrA a c es0, rowsT es0] F (fun v S => ∃ es, KeepE n es0 es ∧ HeapO n (fD es) ∧ S = [qB b r a c es, arrA a c es, rowsT es]) := by
 refine Spec.intro (N := 23) (args := [.iface 69 (.pointer (some ⟨b, 0, none⟩)), .int .i64 (j0 : Int)]) Try.func34 rfl rfl (by simp) ?_
 refine Run.block ?_
 refine Run.loop2 (fun (j : Nat) (es : List Ent) => KeepE n es0 es ∧ UpP n (fD es) j ∧ j < n) (fun j es => .cons 0 (.iface 69 (.pointer (some ⟨b, 0, none⟩))) (.cons 1 (.int .i64 (j : Int)) (.nil))) (fun j es => [qB b r a c es, arrA a c es, rowsT es]) (fun j es => j) (j0) (es0) (⟨KeepE.refl hp, hu, hj⟩) ?_ ?_
 ·exact fun _ j => J.envJ (J.keep (.cons (by repeat constructor) (.cons (by repeat constructor) (.cons (by repeat constructor) Takes.nil))) j) ⟨rfl, rfl, trivial⟩
 rintro j es ⟨hK, hU, hjn⟩ kl1 hl1
 have hel := hK.len
 refine Run.block ?_
 refine Run.seq fun k2 hk2 => ?_
 refine Run.region ?_
 show Sq _ _ _ [0, 1, 2, 3] _ _ _ _
 refine Sq.quiet (i := 0) rfl (Want.none rfl) rfl (ltN rfl) (QP.move rfl rfl).read ?_
 refine Sq.quiet (i := 1) rfl (Want.none rfl) rfl (ltN rfl) (QP.sub64 rfl rfl rfl (by first | omega | (simp <;> omega)) (by first | omega | (simp <;> omega))).read ?_
 refine Sq.quiet (i := 2) rfl (Want.none rfl) rfl (ltN rfl) (QP.quo rfl rfl rfl (by decide)).read ?_
 rw [parI (j := j) (by omega)]
 refine Sq.quiet (i := 3) rfl (Want.none rfl) rfl (ltN rfl) (QP.assign rfl rfl).read ?_
 refine Sq.nil ?_
 refine hk2 _ _ ?_
 refine Run.seq fun k3 hk3 => ?_
 refine Run.seq fun k4 hk4 => ?_
 refine Run.region ?_
 show Sq _ _ _ [0, 1, 2, 3, 4, 5, 6, 7, 8, 9] _ _ _ _
 obtain ⟨y, hxj⟩ : ∃ x, es[j]? = some x := ⟨_, List.getElem?_eq_getElem (by omega)⟩
 have hpj : par j ≤ j := by unfold par; omega
 obtain ⟨x, hxp⟩ : ∃ x, es[par j]? = some x := ⟨_, List.getElem?_eq_getElem (by omega)⟩
 refine Sq.quiet (i := 0) rfl (Want.none rfl) rfl (ltN rfl) (QP.move rfl rfl).read ?_
 refine Sq.quiet (i := 1) rfl (Want.none rfl) rfl (ltN rfl) (QP.move rfl rfl).read ?_
 refine Sq.quiet (i := 2) rfl (Want.none rfl) rfl (ltN rfl) (QP.eql rfl rfl rfl).read ?_
 refine J.caseD (fun c10 => ?_) (fun c10 => ?_)
 ·skip
  refine Sq.quiet (i := 3) rfl (Want.none rfl) rfl (ltN rfl) (QP.move rfl rfl).read ?_
  refine Sq.skip (i := 4) rfl (Want.no rfl rfl rfl rfl) rfl (ltN rfl) ?_
  refine Sq.skip (i := 5) rfl (Want.no rfl rfl rfl rfl) rfl (ltN rfl) ?_
  refine Sq.skip (i := 6) rfl (Want.no rfl rfl rfl rfl) rfl (ltN rfl) ?_
  refine Sq.skip (i := 7) rfl (Want.no rfl rfl rfl rfl) rfl (ltN rfl) ?_
  refine Sq.skip (i := 8) rfl (Want.no rfl rfl rfl rfl) rfl (ltN rfl) ?_
  refine Sq.quiet (i := 9) rfl (Want.none rfl) rfl (ltN rfl) (QP.pick_t rfl rfl rfl).read ?_
  refine Sq.nil ?_
  refine hk4 _ _ ?_
  refine Run.cond_t rfl ?_
  refine Run.exit rfl ?_
  have hH : HeapO n (fD es) := up_end hU (.inl (by omega))
  exact J.ends (res_none rfl) (.cons (by repeat constructor) (.cons (by repeat constructor) (.cons (by repeat constructor) Takes.nil))) ⟨es, hK, hH, rfl⟩
 ·skip
  refine Sq.quiet (i := 3) rfl (Want.none rfl) rfl (ltN rfl) (QP.move rfl rfl).read ?_
  refine Sq.quiet (i := 4) rfl (Want.yes rfl rfl rfl rfl) rfl (ltN rfl) (QP.move rfl rfl).read ?_
  refine Sq.quiet (i := 5) rfl (Want.yes rfl rfl rfl rfl) rfl (ltN rfl) (QP.move rfl rfl).read ?_
  refine Sq.quiet (i := 6) rfl (Want.yes rfl rfl rfl rfl) rfl (ltN rfl) (QP.move rfl rfl).read ?_
  refine Sq.eff (i := 7) rfl (Want.yes rfl rfl rfl rfl) rfl (ltN rfl) (EF.invoke rfl rfl (fun w s => methV mLess (by repeat constructor) w s) ce75 rfl (.cons (by repeat constructor) (.cons (by repeat constructor) Takes.nil)) (fun F' hle hr => lessT F' (i := j) (k := par j) hxj hxp)) ?_
  rintro _ _ ⟨_, ⟨rfl, rfl⟩, rfl⟩
  refine J.app ?_
  refine J.caseD (fun c15 => ?_) (fun c15 => ?_)
  ·skip
   refine Sq.quiet (i := 8) rfl (Want.yes rfl rfl rfl rfl) rfl (ltN rfl) (QP.not rfl rfl).read ?_
   refine Sq.quiet (i := 9) rfl (Want.none rfl) rfl (ltN rfl) (QP.pick_f rfl rfl rfl).read ?_
   refine Sq.nil ?_
   refine hk4 _ _ ?_
   refine Run.cond_f rfl ?_
   refine Run.skip ?_
   refine hk3 _ _ ?_
   refine Run.seq fun k5 hk5 => ?_
   refine Run.region ?_
   show Sq _ _ _ [0, 1, 2, 3] _ _ _ _
   have hij : par j ≠ j := by omega
   have hj0 : 0 < j := by unfold par at hij; omega
   have hpl := par_lt hj0
   obtain ⟨hs1, hs2, hs3⟩ := swap_f hij hxp hxj
   have hlt2 : cmpDue (fD es j) (fD es (par j)) < 0 := by rw [fD_get hxj, fD_get hxp]; exact c15
   have hsl := swap_len es (par j) j x y
   refine Sq.quiet (i := 0) rfl (Want.none rfl) rfl (ltN rfl) (QP.move rfl rfl).read ?_
   refine Sq.quiet (i := 1) rfl (Want.none rfl) rfl (ltN rfl) (QP.move rfl rfl).read ?_
   refine Sq.quiet (i := 2) rfl (Want.none rfl) rfl (ltN rfl) (QP.move rfl rfl).read ?_
   refine Sq.eff (i := 3) rfl (Want.none rfl) rfl (ltN rfl) (EF.invoke rfl rfl (fun w s => methV mSwap (by repeat constructor) w s) ce76 rfl (.cons (by repeat constructor) (.cons (by repeat constructor) Takes.nil)) (fun F' hle hr => swap0 F' (i := par j) (k := j) hij hxp hxj)) ?_
   rintro _ _ ⟨_, ⟨rfl, rfl⟩, rfl⟩
   refine J.app ?_
   refine Sq.nil ?_
   refine hk5 _ _ ?_
   refine Run.region ?_
   show Sq _ _ _ [0, 1] _ _ _ _
   refine Sq.quiet (i := 0) rfl (Want.none rfl) rfl (ltN rfl) (QP.move rfl rfl).read ?_
   refine Sq.quiet (i := 1) rfl (Want.none rfl) rfl (ltN rfl) (QP.assign rfl rfl).read ?_
   refine Sq.nil ?_
   rw [show qB b r a c es = qB b r a c (swapE es (par j) j x y) by unfold qB; rw [hsl]]
   exact J.envJ (J.keep (.cons (by repeat constructor) (.cons (by repeat constructor) (.cons (by repeat constructor) Takes.nil))) (hl1 (par j) (swapE es (par j) j x y) (⟨hK.swap hij hxp hxj (by omega) hjn, up_step hU hjn hij hlt2 hs1 hs2 hs3, by omega⟩) (by omega))) ⟨rfl, rfl, trivial⟩
  ·skip
   refine Sq.quiet (i := 8) rfl (Want.yes rfl rfl rfl rfl) rfl (ltN rfl) (QP.not rfl rfl).read ?_
   refine Sq.quiet (i := 9) rfl (Want.none rfl) rfl (ltN rfl) (QP.pick_f rfl rfl rfl).read ?_
   refine Sq.nil ?_
   refine hk4 _ _ ?_
   refine Run.cond_t rfl ?_
   refine Run.exit rfl ?_
   have hH : HeapO n (fD es) := up_end hU (.inr (by rw [fD_get hxj, fD_get hxp]; exact c15))
   exact J.ends (res_none rfl) (.cons (by repeat constructor) (.cons (by repeat constructor) (.cons (by repeat constructor) Takes.nil))) ⟨es, hK, hH, rfl⟩

theorem child_cases {c i : Nat} (h0 : 0 < c) (h : par c = i) : c = 2 * i + 1 ∨ c = 2 * i + 2 := by unfold par at h; omega
theorem par_l (i : Nat) : par (2 * i + 1) = i := by unfold par; omega
theorem par_r (i : Nat) : par (2 * i + 2) = i := by unfold par; omega

set_option maxHeartbeats 1000000 in
theorem down_spec (F : Fr) {b r : Nat} {a : Option Addr} {c : Nat} {es0 : List Ent} (n : Nat) (hn : n ≤ es0.length) (hN : es0.length ≤ 1000000) (hp : PlacedE es0) (i0 : Nat) (hi : i0 < n) (hd : DnP n (fD es0) i0 False) : Spec Try.prog 33 #[.iface 69 (.pointer (some ⟨b, 0, none⟩)), .int .i64 (i0 : Int), .int .i64 (n : Int)] [qB b r a c es0, arrA a c es0, rowsT es0] F (fun v S => ∃ es rb, v = .bool rb ∧ KeepE n es0 es ∧ (rb = true → HeapO n (fD es)) ∧ (rb = false → UpP n (fD es) i0) ∧ S = [qB b r a c es, arrA a c es, rowsT es]) := by
 refine Spec.intro (N := 48) (args := [.iface 69 (.pointer (some ⟨b, 0, none⟩)), .int .i64 (i0 : Int), .int .i64 (n : Int)]) Try.func33 rfl rfl (by simp) ?_
 refine Run.seq fun k1 hk1 => ?_
 refine Run.region ?_
 show Sq _ _ _ [0] _ _ _ _
 refine Sq.quiet (i := 0) rfl (Want.none rfl) rfl (ltN rfl) (QP.assign rfl rfl).read ?_
 refine Sq.nil ?_
 refine hk1 _ _ ?_
 refine Run.seq fun k2 hk2 => ?_
 refine Run.region ?_
 show Sq _ _ _ [0, 1] _ _ _ _
 refine Sq.quiet (i := 0) rfl (Want.none rfl) rfl (ltN rfl) (QP.move rfl rfl).read ?_
 refine Sq.quiet (i := 1) rfl (Want.none rfl) rfl (ltN rfl) (QP.assign rfl rfl).read ?_
 refine Sq.nil ?_
 refine hk2 _ _ ?_
 refine Run.seq fun k3 hk3 => ?_
 refine Run.block ?_
 refine Run.loop2 (fun (i : Nat) (es : List Ent) => KeepE n es0 es ∧ DnP n (fD es) i (i0 < i) ∧ i0 ≤ i ∧ i < n) (fun i es => .cons 0 (.iface 69 (.pointer (some ⟨b, 0, none⟩))) (.cons 1 (.int .i64 (i0 : Int)) (.cons 2 (.int .i64 (n : Int)) (.cons 7 (.int .i64 (i : Int)) (.nil))))) (fun i es => [qB b r a c es, arrA a c es, rowsT es]) (fun i es => n - i) (i0) (es0) (⟨KeepE.refl hp, ⟨fun c c0 cn h h2 => hd.1 c c0 cn h (h2.imp id fun h3 => absurd h3 (by omega)), hd.2⟩, Nat.le_refl _, hi⟩) ?_ ?_
 ·exact fun _ j => J.envJ (J.keep (.cons (by repeat constructor) (.cons (by repeat constructor) (.cons (by repeat constructor) Takes.nil))) j) ⟨rfl, rfl, rfl, rfl, trivial⟩
 rintro i es ⟨hK, hD, hii, hin⟩ kl4 hl4
 have hel := hK.len
 refine Run.block ?_
 refine Run.seq fun k5 hk5 => ?_
 refine Run.region ?_
 show Sq _ _ _ [0, 1, 2, 3] _ _ _ _
 refine Sq.quiet (i := 0) rfl (Want.none rfl) rfl (ltN rfl) (QP.move rfl rfl).read ?_
 refine Sq.quiet (i := 1) rfl (Want.none rfl) rfl (ltN rfl) (QP.mul rfl rfl rfl).read ?_
 rw [show IntKind.i64.wrap (2 * (i : Int)) = 2 * (i : Int) from wrap_i64 (by omega) (by omega)]
 refine Sq.quiet (i := 2) rfl (Want.none rfl) rfl (ltN rfl) (QP.add64 rfl rfl rfl (by omega) (by omega)).read ?_
 rw [show 2 * (i : Int) + 1 = ((2 * i + 1 : Nat) : Int) by omega]
 refine Sq.quiet (i := 3) rfl (Want.none rfl) rfl (ltN rfl) (QP.assign rfl rfl).read ?_
 refine Sq.nil ?_
 refine hk5 _ _ ?_
 refine Run.seq fun k6 hk6 => ?_
 refine Run.seq fun k7 hk7 => ?_
 refine Run.region ?_
 show Sq _ _ _ [0, 1, 2, 3, 4, 5, 6] _ _ _ _
 refine Sq.quiet (i := 0) rfl (Want.none rfl) rfl (ltN rfl) (QP.move rfl rfl).read ?_
 refine Sq.quiet (i := 1) rfl (Want.none rfl) rfl (ltN rfl) (QP.move rfl rfl).read ?_
 refine Sq.quiet (i := 2) rfl (Want.none rfl) rfl (ltN rfl) (QP.geq rfl rfl rfl).read ?_
 refine J.caseD (fun c17 => ?_) (fun c17 => ?_)
 ·skip
  refine Sq.quiet (i := 3) rfl (Want.none rfl) rfl (ltN rfl) (QP.move rfl rfl).read ?_
  refine Sq.skip (i := 4) rfl (Want.no rfl rfl rfl rfl) rfl (ltN rfl) ?_
  refine Sq.skip (i := 5) rfl (Want.no rfl rfl rfl rfl) rfl (ltN rfl) ?_
  refine Sq.quiet (i := 6) rfl (Want.none rfl) rfl (ltN rfl) (QP.pick_t rfl rfl rfl).read ?_
  refine Sq.nil ?_
  refine hk7 _ _ ?_
  refine Run.cond_t rfl ?_
  refine Run.exit rfl ?_
  refine hk3 _ _ ?_
  refine Run.seq fun k8 hk8 => ?_
  refine Run.region ?_
  show Sq _ _ _ [0, 1, 2, 3] _ _ _ _
  have hend := dn_end hD (fun s s0 sn hs => by rcases child_cases s0 hs with rfl | rfl <;> omega)
  refine Sq.quiet (i := 0) rfl (Want.none rfl) rfl (ltN rfl) (QP.move rfl rfl).read ?_
  refine Sq.quiet (i := 1) rfl (Want.none rfl) rfl (ltN rfl) (QP.move rfl rfl).read ?_
  refine Sq.quiet (i := 2) rfl (Want.none rfl) rfl (ltN rfl) (QP.gtr rfl rfl rfl).read ?_
  refine Sq.quiet (i := 3) rfl (Want.none rfl) rfl (ltN rfl) (QP.assign rfl rfl).read ?_
  refine Sq.nil ?_
  refine hk8 _ _ ?_
  refine Run.ret ?_
  exact J.ends (res_tmp rfl rfl) (.cons (by repeat constructor) (.cons (by repeat constructor) (.cons (by repeat constructor) Takes.nil))) ⟨es, _, rfl, hK, fun h => hend.1 (by have := of_decide_eq_true h; omega), fun h => by have h2 := of_decide_eq_false h; rw [show i0 = i by omega]; exact hend.2, rfl⟩
 ·skip
  refine Sq.quiet (i := 3) rfl (Want.none rfl) rfl (ltN rfl) (QP.move rfl rfl).read ?_
  refine Sq.quiet (i := 4) rfl (Want.yes rfl rfl rfl rfl) rfl (ltN rfl) (QP.move rfl rfl).read ?_
  refine Sq.quiet (i := 5) rfl (Want.yes rfl rfl rfl rfl) rfl (ltN rfl) (QP.lss rfl rfl rfl).read ?_
  refine J.caseD (fun c20 => ?_) (fun c20 => ?_)
  ·skip
   refine Sq.quiet (i := 6) rfl (Want.none rfl) rfl (ltN rfl) (QP.pick_f rfl rfl rfl).read ?_
   refine Sq.nil ?_
   refine hk7 _ _ ?_
   refine Run.cond_t rfl ?_
   refine Run.exit rfl ?_
   refine hk3 _ _ ?_
   refine Run.seq fun k9 hk9 => ?_
   refine Run.region ?_
   show Sq _ _ _ [0, 1, 2, 3] _ _ _ _
   have hend := dn_end hD (fun s s0 sn hs => by rcases child_cases s0 hs with rfl | rfl <;> omega)
   refine Sq.quiet (i := 0) rfl (Want.none rfl) rfl (ltN rfl) (QP.move rfl rfl).read ?_
   refine Sq.quiet (i := 1) rfl (Want.none rfl) rfl (ltN rfl) (QP.move rfl rfl).read ?_
   refine Sq.quiet (i := 2) rfl (Want.none rfl) rfl (ltN rfl) (QP.gtr rfl rfl rfl).read ?_
   refine Sq.quiet (i := 3) rfl (Want.none rfl) rfl (ltN rfl) (QP.assign rfl rfl).read ?_
   refine Sq.nil ?_
   refine hk9 _ _ ?_
   refine Run.ret ?_
   exact J.ends (res_tmp rfl rfl) (.cons (by repeat constructor) (.cons (by repeat constructor) (.cons (by repeat constructor) Takes.nil))) ⟨es, _, rfl, hK, fun h => hend.1 (by have := of_decide_eq_true h; omega), fun h => by have h2 := of_decide_eq_false h; rw [show i0 = i by omega]; exact hend.2, rfl⟩
  ·skip
   refine Sq.quiet (i := 6) rfl (Want.none rfl) rfl (ltN rfl) (QP.pick_f rfl rfl rfl).read ?_
   refine Sq.nil ?_
   refine hk7 _ _ ?_
   refine Run.cond_f rfl ?_
   refine Run.skip ?_
   refine hk6 _ _ ?_
   refine Run.seq fun k10 hk10 => ?_
   refine Run.region ?_
   show Sq _ _ _ [0, 1] _ _ _ _
   obtain ⟨x, hxi⟩ : ∃ x, es[i]? = some x := ⟨_, List.getElem?_eq_getElem (by omega)⟩
   obtain ⟨y, hx1⟩ : ∃ x, es[2 * i + 1]? = some x := ⟨_, List.getElem?_eq_getElem (by omega)⟩
   refine Sq.quiet (i := 0) rfl (Want.none rfl) rfl (ltN rfl) (QP.move rfl rfl).read ?_
   refine Sq.quiet (i := 1) rfl (Want.none rfl) rfl (ltN rfl) (QP.assign rfl rfl).read ?_
   refine Sq.nil ?_
   refine hk10 _ _ ?_
   refine Run.seq fun k11 hk11 => ?_
   refine Run.seq fun k12 hk12 => ?_
   refine Run.region ?_
   show Sq _ _ _ [0, 1, 2] _ _ _ _
   refine Sq.quiet (i := 0) rfl (Want.none rfl) rfl (ltN rfl) (QP.move rfl rfl).read ?_
   refine Sq.quiet (i := 1) rfl (Want.none rfl) rfl (ltN rfl) (QP.add64 rfl rfl rfl (by omega) (by omega)).read ?_
   rw [show ((2 * i + 1 : Nat) : Int) + 1 = ((2 * i + 2 : Nat) : Int) by omega]
   refine Sq.quiet (i := 2) rfl (Want.none rfl) rfl (ltN rfl) (QP.assign rfl rfl).read ?_
   refine Sq.nil ?_
   refine hk12 _ _ ?_
   refine Run.seq fun k13 hk13 => ?_
   refine Run.region ?_
   show Sq _ _ _ [0, 1, 2, 3, 4, 5, 6, 7, 8] _ _ _ _
   refine Sq.quiet (i := 0) rfl (Want.none rfl) rfl (ltN rfl) (QP.move rfl rfl).read ?_
   refine Sq.quiet (i := 1) rfl (Want.none rfl) rfl (ltN rfl) (QP.move rfl rfl).read ?_
   refine Sq.quiet (i := 2) rfl (Want.none rfl) rfl (ltN rfl) (QP.lss rfl rfl rfl).read ?_
   refine J.caseD (fun c27 => ?_) (fun c27 => ?_)
   ·skip
    refine Sq.quiet (i := 3) rfl (Want.none rfl) rfl (ltN rfl) (QP.move rfl rfl).read ?_
    obtain ⟨z, hx2⟩ : ∃ x, es[2 * i + 2]? = some x := ⟨_, List.getElem?_eq_getElem (by omega)⟩
    refine Sq.quiet (i := 4) rfl (Want.yes rfl rfl rfl rfl) rfl (ltN rfl) (QP.move rfl rfl).read ?_
    refine Sq.quiet (i := 5) rfl (Want.yes rfl rfl rfl rfl) rfl (ltN rfl) (QP.move rfl rfl).read ?_
    refine Sq.quiet (i := 6) rfl (Want.yes rfl rfl rfl rfl) rfl (ltN rfl) (QP.move rfl rfl).read ?_
    refine Sq.eff (i := 7) rfl (Want.yes rfl rfl rfl rfl) rfl (ltN rfl) (EF.invoke rfl rfl (fun w s => methV mLess (by repeat constructor) w s) ce75 rfl (.cons (by repeat constructor) (.cons (by repeat constructor) Takes.nil)) (fun F' hle hr => lessT F' (i := 2 * i + 2) (k := 2 * i + 1) hx2 hx1)) ?_
    rintro _ _ ⟨_, ⟨rfl, rfl⟩, rfl⟩
    refine J.app ?_
    refine J.caseD (fun c32 => ?_) (fun c32 => ?_)
    ·skip
     refine Sq.quiet (i := 8) rfl (Want.none rfl) rfl (ltN rfl) (QP.pick_t rfl rfl rfl).read ?_
     refine Sq.nil ?_
     refine hk13 _ _ ?_
     refine Run.cond_t rfl ?_
     refine Run.region ?_
     show Sq _ _ _ [0, 1] _ _ _ _
     refine Sq.quiet (i := 0) rfl (Want.none rfl) rfl (ltN rfl) (QP.move rfl rfl).read ?_
     refine Sq.quiet (i := 1) rfl (Want.none rfl) rfl (ltN rfl) (QP.assign rfl rfl).read ?_
     refine Sq.nil ?_
     refine hk11 _ _ ?_
     refine Run.seq fun k14 hk14 => ?_
     refine Run.seq fun k15 hk15 => ?_
     refine Run.region ?_
     show Sq _ _ _ [0, 1, 2, 3, 4] _ _ _ _
     refine Sq.quiet (i := 0) rfl (Want.none rfl) rfl (ltN rfl) (QP.move rfl rfl).read ?_
     refine Sq.quiet (i := 1) rfl (Want.none rfl) rfl (ltN rfl) (QP.move rfl rfl).read ?_
     refine Sq.quiet (i := 2) rfl (Want.none rfl) rfl (ltN rfl) (QP.move rfl rfl).read ?_
     refine Sq.eff (i := 3) rfl (Want.none rfl) rfl (ltN rfl) (EF.invoke rfl rfl (fun w s => methV mLess (by repeat constructor) w s) ce75 rfl (.cons (by repeat constructor) (.cons (by repeat constructor) Takes.nil)) (fun F' hle hr => lessT F' (i := 2 * i + 2) (k := i) hx2 hxi)) ?_
     rintro _ _ ⟨_, ⟨rfl, rfl⟩, rfl⟩
     refine J.app ?_
     refine J.caseD (fun c38 => ?_) (fun c38 => ?_)
     ·skip
      refine Sq.quiet (i := 4) rfl (Want.none rfl) rfl (ltN rfl) (QP.not rfl rfl).read ?_
      refine Sq.nil ?_
      refine hk15 _ _ ?_
      refine Run.cond_f rfl ?_
      refine Run.skip ?_
      refine hk14 _ _ ?_
      refine Run.seq fun k16 hk16 => ?_
      refine Run.region ?_
      show Sq _ _ _ [0, 1, 2, 3] _ _ _ _
      have hmin : ∀ s, 0 < s → s < n → par s = i → leD (fD es (2 * i + 2)) (fD es s) := by
        intro s s0 sn hs
        rcases child_cases s0 hs with rfl | rfl
        · rw [fD_get hx2, fD_get hx1]; exact leD.of_lt c32
        · unfold leD; intro h; have := (totD.neg _ _).1 h; omega
      have hik : i ≠ 2 * i + 2 := by omega
      obtain ⟨hs1, hs2, hs3⟩ := swap_f hik hxi hx2
      have hlt2 : cmpDue (fD es (2 * i + 2)) (fD es i) < 0 := by rw [fD_get hx2, fD_get hxi]; exact c38
      have hsl := swap_len es i (2 * i + 2) x z
      refine Sq.quiet (i := 0) rfl (Want.none rfl) rfl (ltN rfl) (QP.move rfl rfl).read ?_
      refine Sq.quiet (i := 1) rfl (Want.none rfl) rfl (ltN rfl) (QP.move rfl rfl).read ?_
      refine Sq.quiet (i := 2) rfl (Want.none rfl) rfl (ltN rfl) (QP.move rfl rfl).read ?_
      refine Sq.eff (i := 3) rfl (Want.none rfl) rfl (ltN rfl) (EF.invoke rfl rfl (fun w s => methV mSwap (by repeat constructor) w s) ce76 rfl (.cons (by repeat constructor) (.cons (by repeat constructor) Takes.nil)) (fun F' hle hr => swap0 F' (i := i) (k := 2 * i + 2) hik hxi hx2)) ?_
      rintro _ _ ⟨_, ⟨rfl, rfl⟩, rfl⟩
      refine J.app ?_
      refine Sq.nil ?_
      refine hk16 _ _ ?_
      refine Run.region ?_
      show Sq _ _ _ [0, 1] _ _ _ _
      refine Sq.quiet (i := 0) rfl (Want.none rfl) rfl (ltN rfl) (QP.move rfl rfl).read ?_
      refine Sq.quiet (i := 1) rfl (Want.none rfl) rfl (ltN rfl) (QP.assign rfl rfl).read ?_
      refine Sq.nil ?_
      rw [show qB b r a c es = qB b r a c (swapE es i (2 * i + 2) x z) by unfold qB; rw [hsl]]
      exact J.envJ (J.keep (.cons (by repeat constructor) (.cons (by repeat constructor) (.cons (by repeat constructor) Takes.nil))) (hl4 (2 * i + 2) (swapE es i (2 * i + 2) x z) (⟨hK.swap hik hxi hx2 (by omega) (by omega), dn_step hD (by omega) (by omega) (par_r i) hmin hlt2 hs1 hs2 hs3, by omega, by omega⟩) (by omega))) ⟨rfl, rfl, rfl, rfl, trivial⟩
     ·skip
      refine Sq.quiet (i := 4) rfl (Want.none rfl) rfl (ltN rfl) (QP.not rfl rfl).read ?_
      refine Sq.nil ?_
      refine hk15 _ _ ?_
      refine Run.cond_t rfl ?_
      refine Run.exit rfl ?_
      refine hk3 _ _ ?_
      refine Run.seq fun k17 hk17 => ?_
      refine Run.region ?_
      show Sq _ _ _ [0, 1, 2, 3] _ _ _ _
      have hmin : ∀ s, 0 < s → s < n → par s = i → leD (fD es (2 * i + 2)) (fD es s) := by
        intro s s0 sn hs
        rcases child_cases s0 hs with rfl | rfl
        · rw [fD_get hx2, fD_get hx1]; exact leD.of_lt c32
        · unfold leD; intro h; have := (totD.neg _ _).1 h; omega
      have hend := dn_end hD (fun s s0 sn hs => (show leD (fD es i) (fD es (2 * i + 2)) by rw [fD_get hxi, fD_get hx2]; exact c38).trans (hmin s s0 sn hs))
      refine Sq.quiet (i := 0) rfl (Want.none rfl) rfl (ltN rfl) (QP.move rfl rfl).read ?_
      refine Sq.quiet (i := 1) rfl (Want.none rfl) rfl (ltN rfl) (QP.move rfl rfl).read ?_
      refine Sq.quiet (i := 2) rfl (Want.none rfl) rfl (ltN rfl) (QP.gtr rfl rfl rfl).read ?_
      refine Sq.quiet (i := 3) rfl (Want.none rfl) rfl (ltN rfl) (QP.assign rfl rfl).read ?_
      refine Sq.nil ?_
      refine hk17 _ _ ?_
      refine Run.ret ?_
      exact J.ends (res_tmp rfl rfl) (.cons (by repeat constructor) (.cons (by repeat constructor) (.cons (by repeat constructor) Takes.nil))) ⟨es, _, rfl, hK, fun h => hend.1 (by have := of_decide_eq_true h; omega), fun h => by have h2 := of_decide_eq_false h; rw [show i0 = i by omega]; exact hend.2, rfl⟩
    ·skip
     refine Sq.quiet (i := 8) rfl (Want.none rfl) rfl (ltN rfl) (QP.pick_t rfl rfl rfl).read ?_
     refine Sq.nil ?_
     refine hk13 _ _ ?_
     refine Run.cond_f rfl ?_
     refine Run.skip ?_
     refine hk11 _ _ ?_
     refine Run.seq fun k18 hk18 => ?_
     refine Run.seq fun k19 hk19 => ?_
     refine Run.region ?_
     show Sq _ _ _ [0, 1, 2, 3, 4] _ _ _ _
     refine Sq.quiet (i := 0) rfl (Want.none rfl) rfl (ltN rfl) (QP.move rfl rfl).read ?_
     refine Sq.quiet (i := 1) rfl (Want.none rfl) rfl (ltN rfl) (QP.move rfl rfl).read ?_
     refine Sq.quiet (i := 2) rfl (Want.none rfl) rfl (ltN rfl) (QP.move rfl rfl).read ?_
     refine Sq.eff (i := 3) rfl (Want.none rfl) rfl (ltN rfl) (EF.invoke rfl rfl (fun w s => methV mLess (by repeat constructor) w s) ce75 rfl (.cons (by repeat constructor) (.cons (by repeat constructor) Takes.nil)) (fun F' hle hr => lessT F' (i := 2 * i + 1) (k := i) hx1 hxi)) ?_
     rintro _ _ ⟨_, ⟨rfl, rfl⟩, rfl⟩
     refine J.app ?_
     refine J.caseD (fun c38 => ?_) (fun c38 => ?_)
     ·skip
      refine Sq.quiet (i := 4) rfl (Want.none rfl) rfl (ltN rfl) (QP.not rfl rfl).read ?_
      refine Sq.nil ?_
      refine hk19 _ _ ?_
      refine Run.cond_f rfl ?_
      refine Run.skip ?_
      refine hk18 _ _ ?_
      refine Run.seq fun k20 hk20 => ?_
      refine Run.region ?_
      show Sq _ _ _ [0, 1, 2, 3] _ _ _ _
      have hmin : ∀ s, 0 < s → s < n → par s = i → leD (fD es (2 * i + 1)) (fD es s) := by
        intro s s0 sn hs
        rcases child_cases s0 hs with rfl | rfl
        · unfold leD; intro h; have := (totD.neg _ _).1 h; omega
        · rw [fD_get hx1, fD_get hx2]; exact c32
      have hik : i ≠ 2 * i + 1 := by omega
      obtain ⟨hs1, hs2, hs3⟩ := swap_f hik hxi hx1
      have hlt2 : cmpDue (fD es (2 * i + 1)) (fD es i) < 0 := by rw [fD_get hx1, fD_get hxi]; exact c38
      have hsl := swap_len es i (2 * i + 1) x y
      refine Sq.quiet (i := 0) rfl (Want.none rfl) rfl (ltN rfl) (QP.move rfl rfl).read ?_
      refine Sq.quiet (i := 1) rfl (Want.none rfl) rfl (ltN rfl) (QP.move rfl rfl).read ?_
      refine Sq.quiet (i := 2) rfl (Want.none rfl) rfl (ltN rfl) (QP.move rfl rfl).read ?_
      refine Sq.eff (i := 3) rfl (Want.none rfl) rfl (ltN rfl) (EF.invoke rfl rfl (fun w s => methV mSwap (by repeat constructor) w s) ce76 rfl (.cons (by repeat constructor) (.cons (by repeat constructor) Takes.nil)) (fun F' hle hr => swap0 F' (i := i) (k := 2 * i + 1) hik hxi hx1)) ?_
      rintro _ _ ⟨_, ⟨rfl, rfl⟩, rfl⟩
      refine J.app ?_
      refine Sq.nil ?_
      refine hk20 _ _ ?_
      refine Run.region ?_
      show Sq _ _ _ [0, 1] _ _ _ _
      refine Sq.quiet (i := 0) rfl (Want.none rfl) rfl (ltN rfl) (QP.move rfl rfl).read ?_
      refine Sq.quiet (i := 1) rfl (Want.none rfl) rfl (ltN rfl) (QP.assign rfl rfl).read ?_
      refine Sq.nil ?_
      rw [show qB b r a c es = qB b r a c (swapE es i (2 * i + 1) x y) by unfold qB; rw [hsl]]
      exact J.envJ (J.keep (.cons (by repeat constructor) (.cons (by repeat constructor) (.cons (by repeat constructor) Takes.nil))) (hl4 (2 * i + 1) (swapE es i (2 * i + 1) x y) (⟨hK.swap hik hxi hx1 (by omega) (by omega), dn_step hD (by omega) (by omega) (par_l i) hmin hlt2 hs1 hs2 hs3, by omega, by omega⟩) (by omega))) ⟨rfl, rfl, rfl, rfl, trivial⟩
     ·skip
      refine Sq.quiet (i := 4) rfl (Want.none rfl) rfl (ltN rfl) (QP.not rfl rfl).read ?_
      refine Sq.nil ?_
      refine hk19 _ _ ?_
      refine Run.cond_t rfl ?_
      refine Run.exit rfl ?_
      refine hk3 _ _ ?_
      refine Run.seq fun k21 hk21 => ?_
      refine Run.region ?_
      show Sq _ _ _ [0, 1, 2, 3] _ _ _ _
      have hmin : ∀ s, 0 < s → s < n → par s = i → leD (fD es (2 * i + 1)) (fD es s) := by
        intro s s0 sn hs
        rcases child_cases s0 hs with rfl | rfl
        · unfold leD; intro h; have := (totD.neg _ _).1 h; omega
        · rw [fD_get hx1, fD_get hx2]; exact c32
      have hend := dn_end hD (fun s s0 sn hs => (show leD (fD es i) (fD es (2 * i + 1)) by rw [fD_get hxi, fD_get hx1]; exact c38).trans (hmin s s0 sn hs))
      refine Sq.quiet (i := 0) rfl (Want.none rfl) rfl (ltN rfl) (QP.move rfl rfl).read ?_
      refine Sq.quiet (i := 1) rfl (Want.none rfl) rfl (ltN rfl) (QP.move rfl rfl).read ?_
      refine Sq.quiet (i := 2) rfl (Want.none rfl) rfl (ltN rfl) (QP.gtr rfl rfl rfl).read ?_
      refine Sq.quiet (i := 3) rfl (Want.none rfl) rfl (ltN rfl) (QP.assign rfl rfl).read ?_
      refine Sq.nil ?_
      refine hk21 _ _ ?_
      refine Run.ret ?_
      exact J.ends (res_tmp rfl rfl) (.cons (by repeat constructor) (.cons (by repeat constructor) (.cons (by repeat constructor) Takes.nil))) ⟨es, _, rfl, hK, fun h => hend.1 (by have := of_decide_eq_true h; omega), fun h => by have h2 := of_decide_eq_false h; rw [show i0 = i by omega]; exact hend.2, rfl⟩
   ·skip
    refine Sq.quiet (i := 3) rfl (Want.none rfl) rfl (ltN rfl) (QP.move rfl rfl).read ?_
    refine Sq.skip (i := 4) rfl (Want.no rfl rfl rfl rfl) rfl (ltN rfl) ?_
    refine Sq.skip (i := 5) rfl (Want.no rfl rfl rfl rfl) rfl (ltN rfl) ?_
    refine Sq.skip (i := 6) rfl (Want.no rfl rfl rfl rfl) rfl (ltN rfl) ?_
    refine Sq.skip (i := 7) rfl (Want.no rfl rfl rfl rfl) rfl (ltN rfl) ?_
    refine Sq.quiet (i := 8) rfl (Want.none rfl) rfl (ltN rfl) (QP.pick_f rfl rfl rfl).read ?_
    refine Sq.nil ?_
    refine hk13 _ _ ?_
    refine Run.cond_f rfl ?_
    refine Run.skip ?_
    refine hk11 _ _ ?_
    refine Run.seq fun k22 hk22 => ?_
    refine Run.seq fun k23 hk23 => ?_
    refine Run.region ?_
    show Sq _ _ _ [0, 1, 2, 3, 4] _ _ _ _
    refine Sq.quiet (i := 0) rfl (Want.none rfl) rfl (ltN rfl) (QP.move rfl rfl).read ?_
    refine Sq.quiet (i := 1) rfl (Want.none rfl) rfl (ltN rfl) (QP.move rfl rfl).read ?_
    refine Sq.quiet (i := 2) rfl (Want.none rfl) rfl (ltN rfl) (QP.move rfl rfl).read ?_
    refine Sq.eff (i := 3) rfl (Want.none rfl) rfl (ltN rfl) (EF.invoke rfl rfl (fun w s => methV mLess (by repeat constructor) w s) ce75 rfl (.cons (by repeat constructor) (.cons (by repeat constructor) Takes.nil)) (fun F' hle hr => lessT F' (i := 2 * i + 1) (k := i) hx1 hxi)) ?_
    rintro _ _ ⟨_, ⟨rfl, rfl⟩, rfl⟩
    refine J.app ?_
    refine J.caseD (fun c38 => ?_) (fun c38 => ?_)
    ·skip
     refine Sq.quiet (i := 4) rfl (Want.none rfl) rfl (ltN rfl) (QP.not rfl rfl).read ?_
     refine Sq.nil ?_
     refine hk23 _ _ ?_
     refine Run.cond_f rfl ?_
     refine Run.skip ?_
     refine hk22 _ _ ?_
     refine Run.seq fun k24 hk24 => ?_
     refine Run.region ?_
     show Sq _ _ _ [0, 1, 2, 3] _ _ _ _
     have hmin : ∀ s, 0 < s → s < n → par s = i → leD (fD es (2 * i + 1)) (fD es s) := by
       intro s s0 sn hs
       rcases child_cases s0 hs with rfl | rfl
       · unfold leD; intro h; have := (totD.neg _ _).1 h; omega
       · omega
     have hik : i ≠ 2 * i + 1 := by omega
     obtain ⟨hs1, hs2, hs3⟩ := swap_f hik hxi hx1
     have hlt2 : cmpDue (fD es (2 * i + 1)) (fD es i) < 0 := by rw [fD_get hx1, fD_get hxi]; exact c38
     have hsl := swap_len es i (2 * i + 1) x y
     refine Sq.quiet (i := 0) rfl (Want.none rfl) rfl (ltN rfl) (QP.move rfl rfl).read ?_
     refine Sq.quiet (i := 1) rfl (Want.none rfl) rfl (ltN rfl) (QP.move rfl rfl).read ?_
     refine Sq.quiet (i := 2) rfl (Want.none rfl) rfl (ltN rfl) (QP.move rfl rfl).read ?_
     refine Sq.eff (i := 3) rfl (Want.none rfl) rfl (ltN rfl) (EF.invoke rfl rfl (fun w s => methV mSwap (by repeat constructor) w s) ce76 rfl (.cons (by repeat constructor) (.cons (by repeat constructor) Takes.nil)) (fun F' hle hr => swap0 F' (i := i) (k := 2 * i + 1) hik hxi hx1)) ?_
     rintro _ _ ⟨_, ⟨rfl, rfl⟩, rfl⟩
     refine J.app ?_
     refine Sq.nil ?_
     refine hk24 _ _ ?_
     refine Run.region ?_
     show Sq _ _ _ [0, 1] _ _ _ _
     refine Sq.quiet (i := 0) rfl (Want.none rfl) rfl (ltN rfl) (QP.move rfl rfl).read ?_
     refine Sq.quiet (i := 1) rfl (Want.none rfl) rfl (ltN rfl) (QP.assign rfl rfl).read ?_
     refine Sq.nil ?_
     rw [show qB b r a c es = qB b r a c (swapE es i (2 * i + 1) x y) by unfold qB; rw [hsl]]
     exact J.envJ (J.keep (.cons (by repeat constructor) (.cons (by repeat constructor) (.cons (by repeat constructor) Takes.nil))) (hl4 (2 * i + 1) (swapE es i (2 * i + 1) x y) (⟨hK.swap hik hxi hx1 (by omega) (by omega), dn_step hD (by omega) (by omega) (par_l i) hmin hlt2 hs1 hs2 hs3, by omega, by omega⟩) (by omega))) ⟨rfl, rfl, rfl, rfl, trivial⟩
    ·skip
     refine Sq.quiet (i := 4) rfl (Want.none rfl) rfl (ltN rfl) (QP.not rfl rfl).read ?_
     refine Sq.nil ?_
     refine hk23 _ _ ?_
     refine Run.cond_t rfl ?_
     refine Run.exit rfl ?_
     refine hk3 _ _ ?_
     refine Run.seq fun k25 hk25 => ?_
     refine Run.region ?_
     show Sq _ _ _ [0, 1, 2, 3] _ _ _ _
     have hmin : ∀ s, 0 < s → s < n → par s = i → leD (fD es (2 * i + 1)) (fD es s) := by
       intro s s0 sn hs
       rcases child_cases s0 hs with rfl | rfl
       · unfold leD; intro h; have := (totD.neg _ _).1 h; omega
       · omega
     have hend := dn_end hD (fun s s0 sn hs => (show leD (fD es i) (fD es (2 * i + 1)) by rw [fD_get hxi, fD_get hx1]; exact c38).trans (hmin s s0 sn hs))
     refine Sq.quiet (i := 0) rfl (Want.none rfl) rfl (ltN rfl) (QP.move rfl rfl).read ?_
     refine Sq.quiet (i := 1) rfl (Want.none rfl) rfl (ltN rfl) (QP.move rfl rfl).read ?_
     refine Sq.quiet (i := 2) rfl (Want.none rfl) rfl (ltN rfl) (QP.gtr rfl rfl rfl).read ?_
     refine Sq.quiet (i := 3) rfl (Want.none rfl) rfl (ltN rfl) (QP.assign rfl rfl).read ?_
     refine Sq.nil ?_
     refine hk25 _ _ ?_
     refine Run.ret ?_
     exact J.ends (res_tmp rfl rfl) (.cons (by repeat constructor) (.cons (by repeat constructor) (.cons (by repeat constructor) Takes.nil))) ⟨es, _, rfl, hK, fun h => hend.1 (by have := of_decide_eq_true h; omega), fun h => by have h2 := of_decide_eq_false h; rw [show i0 = i by omega]; exact hend.2, rfl⟩
end Slb
