/- T4: a part of the proof that a law of this package holds for every input; no condition. -/
import Derived.Test.YtakpmaoblkhikaaT3
namespace Slb
open Go Go.Proofs
set_option maxRecDepth 20000
theorem rows_snoc {es : List Ent} {x : Ent} {h : PH} (g : stars [rowsT es, blk x.1 (TimerOne.enc x.2) 67] h) : rowsT (es ++ [x]) h := by
  refine rowsO_of_one (List.perm_append_comm (l₁ := es) (l₂ := [x])) ?_
  exact stars_perm (List.Perm.swap _ _ _) g
theorem rows_last {es : List Ent} {x : Ent} {h : PH} (g : rowsT (es ++ [x]) h) : stars [blk x.1 (TimerOne.enc x.2) 67, rowsT es] h := rowsO_one (List.perm_append_comm (l₁ := es) (l₂ := [x])) g
theorem up_new {es : List Ent} {x : Ent} (h : HeapO es.length (fD es)) : UpP (es.length + 1) (fD (es ++ [x])) es.length := by
  constructor
  · intro c c0 cn hc
    have hp := par_lt c0
    have := h c c0 (by omega)
    unfold fD at this ⊢
    rw [List.getElem?_append_left (by omega), List.getElem?_append_left (by omega)]
    exact this
  · intro c c0 cn hc _
    have := par_lt c0
    omega
theorem placed_new {es : List Ent} {c0 : Nat} {o : TimerOne} (h : PlacedE es) : PlacedE (es ++ [(c0, { o with place := (es.length : Int) })]) := by
  intro i x hx
  by_cases hi : i < es.length
  · rw [List.getElem?_append_left hi] at hx; exact h i x hx
  · rw [List.getElem?_append_right (by omega)] at hx
    have h2 : i - es.length = 0 := by
      have := (List.getElem?_eq_some_iff.1 hx).1
      simp at this; omega
    rw [h2] at hx
    simp only [List.getElem?_cons_zero, Option.some.injEq] at hx
    subst hx
    show ((es.length : Nat) : Int) = (i : Int)
    omega
theorem heap_less {n m : Nat} {f : Nat → Due} (h : HeapO n f) (hm : m ≤ n) : HeapO m f := fun c c0 cm => h c c0 (by omega)
theorem snoc_of {es : List Ent} {n : Nat} {x : Ent} (hl : es.length = n + 1) (hx : es[n]? = some x) : ∃ init, es = init ++ [x] ∧ init.length = n := by
  refine ⟨es.take n, ?_, by rw [List.length_take]; omega⟩
  have := take_succ_get hx
  rw [List.take_of_length_le (by omega)] at this
  exact this
theorem heap_init {init : List Ent} {x : Ent} (h : HeapO init.length (fD (init ++ [x]))) : HeapO init.length (fD init) := by
  intro c c0 cn
  have hp := par_lt c0
  have := h c c0 cn
  unfold fD at this ⊢
  rw [List.getElem?_append_left (by omega), List.getElem?_append_left cn] at this
  exact this
theorem placed_init {init : List Ent} {x : Ent} (h : PlacedE (init ++ [x])) : PlacedE init := fun i y hy => h i y (by rw [List.getElem?_append_left (List.getElem?_eq_some_iff.1 hy).1]; exact hy)
theorem remove_dn {es : List Ent} {i n : Nat} {x y : Ent} (h : HeapO (n + 1) (fD es)) (hin : i < n) (hi : es[i]? = some x) (hk : es[n]? = some y) : DnP n (fD (swapE es i n x y)) i False := by
  obtain ⟨s1, s2, s3⟩ := swap_f (show i ≠ n by omega) hi hk
  constructor
  · intro c c0 cn hc hci
    have hp := par_lt c0
    have hci2 : c ≠ i := by rcases hci with h | h; exact h; exact h.elim
    rw [s3 (par c) hc (by omega), s3 c hci2 (by omega)]
    exact h c c0 (by omega)
  · intro c c0 cn hc hi0
    have hp := par_lt hi0
    have hcp := par_lt c0
    rw [s3 (par i) (by omega) (by omega), s3 c (by omega) (by omega)]
    have h1 := h i hi0 (by omega)
    have h2 := h c c0 (by omega)
    rw [hc] at h2
    exact h1.trans h2

theorem fix_spec (F : Fr) {b r : Nat} {a : Option Addr} {c : Nat} {es0 : List Ent} (hN : es0.length ≤ 1000000) (hp : PlacedE es0) (i : Nat) (hi : i < es0.length) (hd : DnP es0.length (fD es0) i False) : Spec Try.prog 27 #[.iface 69 (.pointer (some ⟨b, 0, none⟩)), .int .i64 (i : Int)] [qB b r a c es0, arrA a c es0, rowsT es0] F (fun v S => ∃ es, KeepE es0.length es0 es ∧ HeapO es0.length (fD es) ∧ S = [qB b r a c es, arrA a c es, rowsT es]) := by
 have hbl := bs_len es0
 refine Spec.intro (N := 13) (args := [.iface 69 (.pointer (some ⟨b, 0, none⟩)), .int .i64 (i : Int)]) Try.func27 rfl rfl (by simp) ?_
 refine Run.seq fun k1 hk1 => ?_
 refine Run.region ?_
 show Sq _ _ _ [0, 1, 2, 3, 4, 5] _ _ _ _
 refine Sq.quiet (i := 0) rfl (Want.none rfl) rfl (ltN rfl) (QP.move rfl rfl).read ?_
 refine Sq.quiet (i := 1) rfl (Want.none rfl) rfl (ltN rfl) (QP.move rfl rfl).read ?_
 refine Sq.quiet (i := 2) rfl (Want.none rfl) rfl (ltN rfl) (QP.move rfl rfl).read ?_
 refine Sq.eff (i := 3) rfl (Want.none rfl) rfl (ltN rfl) (EF.invoke rfl rfl (fun w s => methV mLen (by repeat constructor) w s) ce74 rfl Takes.nil (fun F' hle hr => len_spec F')) ?_
 rintro _ _ ⟨_, ⟨rfl, rfl⟩, rfl⟩
 refine J.app ?_
 rw [hbl]
 refine Sq.eff (i := 4) rfl (Want.none rfl) rfl (ltN rfl) (EF.call rfl ce33 rfl (.cons (by repeat constructor) (.cons (by repeat constructor) (.cons (by repeat constructor) Takes.nil))) (fun F' hle hr => down_spec F' (es0 := es0) es0.length (Nat.le_refl _) hN hp i hi hd)) ?_
 rintro _ _ ⟨_, ⟨es2, rb, rfl, hK2, hT2, hF2, rfl⟩, rfl⟩
 refine J.app ?_
 refine J.caseB (fun c8 => ?_) (fun c8 => ?_)
 ·skip
  refine Sq.quiet (i := 5) rfl (Want.none rfl) rfl (ltN rfl) (QP.not rfl rfl).read ?_
  refine Sq.nil ?_
  refine hk1 _ _ ?_
  refine Run.cond_f rfl ?_
  refine Run.skip ?_
  exact J.ends (res_none rfl) (.cons (by repeat constructor) (.cons (by repeat constructor) (.cons (by repeat constructor) Takes.nil))) ⟨es2, hK2, hT2 c8, rfl⟩
 ·skip
  refine Sq.quiet (i := 5) rfl (Want.none rfl) rfl (ltN rfl) (QP.not rfl rfl).read ?_
  refine Sq.nil ?_
  refine hk1 _ _ ?_
  refine Run.cond_t rfl ?_
  refine Run.region ?_
  show Sq _ _ _ [0, 1, 2] _ _ _ _
  refine Sq.quiet (i := 0) rfl (Want.none rfl) rfl (ltN rfl) (QP.move rfl rfl).read ?_
  refine Sq.quiet (i := 1) rfl (Want.none rfl) rfl (ltN rfl) (QP.move rfl rfl).read ?_
  refine Sq.eff (i := 2) rfl (Want.none rfl) rfl (ltN rfl) (EF.call rfl ce34 rfl (.cons (by repeat constructor) (.cons (by repeat constructor) (.cons (by repeat constructor) Takes.nil))) (fun F' hle hr => up_spec F' (es0 := es2) es0.length (by rw [hK2.len]; exact Nat.le_refl _) (by rw [hK2.len]; exact hN) hK2.placed i hi (hF2 c8))) ?_
  rintro _ _ ⟨_, ⟨es3, hK3, hH3, rfl⟩, rfl⟩
  refine J.app ?_
  refine Sq.nil ?_
  exact J.ends (res_none rfl) (.cons (by repeat constructor) (.cons (by repeat constructor) (.cons (by repeat constructor) Takes.nil))) ⟨es3, hK2.trans hK3, hH3, rfl⟩

theorem hpush_spec (F : Fr) {b r : Nat} {a : Option Addr} {c : Nat} {es0 : List Ent} (hN : es0.length ≤ 100000) (hp : PlacedE es0) (hh : HeapO es0.length (fD es0)) {c0 : Nat} (o : TimerOne) : Spec Try.prog 28 #[.iface 69 (.pointer (some ⟨b, 0, none⟩)), .iface 64 (.pointer (some ⟨c0, 0, none⟩))] [qB b r a c es0, arrA a c es0, rowsT es0, blk c0 (TimerOne.enc o) 67] F (fun v S => ∃ a2 c2 es, KeepE (es0.length + 1) (es0 ++ [(c0, { o with place := (es0.length : Int) })]) es ∧ HeapO (es0.length + 1) (fD es) ∧ S = [qB b r a2 c2 es, arrA a2 c2 es, rowsT es]) := by
 refine Spec.intro (N := 12) (args := [.iface 69 (.pointer (some ⟨b, 0, none⟩)), .iface 64 (.pointer (some ⟨c0, 0, none⟩))]) Try.func28 rfl rfl (by simp) ?_
 refine Run.seq fun k1 hk1 => ?_
 refine Run.region ?_
 show Sq _ _ _ [0, 1, 2] _ _ _ _
 refine Sq.quiet (i := 0) rfl (Want.none rfl) rfl (ltN rfl) (QP.move rfl rfl).read ?_
 refine Sq.quiet (i := 1) rfl (Want.none rfl) rfl (ltN rfl) (QP.move rfl rfl).read ?_
 refine Sq.eff (i := 2) rfl (Want.none rfl) rfl (ltN rfl) (EF.invoke rfl rfl (fun w s => methP mPush w s) ce78 rfl (.cons (by repeat constructor) (.cons (by repeat constructor) (.cons (by repeat constructor) Takes.nil))) (fun F' hle hr => pushR F' (by omega) o)) ?_
 rintro _ _ ⟨_, ⟨a2, c2, rfl⟩, rfl⟩
 refine J.app ?_
 refine J.close (A := rowsT (es0 ++ [(c0, { o with place := (es0.length : Int) })])) (m := [rowsT es0, blk c0 (TimerOne.enc { o with place := (es0.length : Int) }) 67]) (.cons (by repeat constructor) (.cons (by repeat constructor) Takes.nil)) (fun _ g => rows_snoc (x := (c0, { o with place := (es0.length : Int) })) g) ?_
 refine Sq.nil ?_
 refine hk1 _ _ ?_
 refine Run.region ?_
 show Sq _ _ _ [0, 1, 2, 3, 4] _ _ _ _
 refine Sq.quiet (i := 0) rfl (Want.none rfl) rfl (ltN rfl) (QP.move rfl rfl).read ?_
 refine Sq.quiet (i := 1) rfl (Want.none rfl) rfl (ltN rfl) (QP.move rfl rfl).read ?_
 refine Sq.eff (i := 2) rfl (Want.none rfl) rfl (ltN rfl) (EF.invoke rfl rfl (fun w s => methV mLen (by repeat constructor) w s) ce74 rfl Takes.nil (fun F' hle hr => len_spec F')) ?_
 rintro _ _ ⟨_, ⟨rfl, rfl⟩, rfl⟩
 refine J.app ?_
 rw [show (((bsOf (es0 ++ [(c0, { o with place := (es0.length : Int) })])).length : Nat) : Int) = (es0.length : Int) + 1 by rw [bs_len]; simp]
 refine Sq.quiet (i := 3) rfl (Want.none rfl) rfl (ltN rfl) (QP.sub64 rfl rfl rfl (by omega) (by omega)).read ?_
 rw [show (es0.length : Int) + 1 - 1 = (es0.length : Int) by omega]
 refine Sq.eff (i := 4) rfl (Want.none rfl) rfl (ltN rfl) (EF.call rfl ce34 rfl (.cons (by repeat constructor) (.cons (by repeat constructor) (.cons (by repeat constructor) Takes.nil))) (fun F' hle hr => up_spec F' (es0 := es0 ++ [(c0, { o with place := (es0.length : Int) })]) (es0.length + 1) (by simp) (by simp only [List.length_append, List.length_cons, List.length_nil]; omega) (placed_new hp) es0.length (by omega) (up_new hh))) ?_
 rintro _ _ ⟨_, ⟨es3, hK3, hH3, rfl⟩, rfl⟩
 refine J.app ?_
 refine Sq.nil ?_
 exact J.ends (res_none rfl) (.cons (by repeat constructor) (.cons (by repeat constructor) (.cons (by repeat constructor) Takes.nil))) ⟨a2, c2, es3, hK3, hH3, rfl⟩

set_option maxHeartbeats 1000000 in
theorem remove_spec (F : Fr) {b r : Nat} {a : Option Addr} {c : Nat} {es0 : List Ent} (hN : es0.length ≤ 1000000) (hp : PlacedE es0) (hh : HeapO es0.length (fD es0)) (i : Nat) (hi : i < es0.length) : Spec Try.prog 29 #[.iface 69 (.pointer (some ⟨b, 0, none⟩)), .int .i64 (i : Int)] [qB b r a c es0, arrA a c es0, rowsT es0] F (fun v S => ∃ es x, es0[i]? = some x ∧ (coreE x :: es.map coreE).Perm (es0.map coreE) ∧ PlacedE es ∧ HeapO es.length (fD es) ∧ S = [qB b r a c es, arrA a c es, rowsT es]) := by
 have hbl := bs_len es0
 obtain ⟨x, hx⟩ : ∃ x, es0[i]? = some x := ⟨_, List.getElem?_eq_getElem hi⟩
 obtain ⟨nn, hnn⟩ : ∃ nn, es0.length = nn + 1 := ⟨es0.length - 1, by omega⟩
 obtain ⟨y, hy⟩ : ∃ y, es0[nn]? = some y := ⟨_, List.getElem?_eq_getElem (by omega)⟩
 refine Spec.intro (N := 26) (args := [.iface 69 (.pointer (some ⟨b, 0, none⟩)), .int .i64 (i : Int)]) Try.func29 rfl rfl (by simp) ?_
 refine Run.seq fun k1 hk1 => ?_
 refine Run.region ?_
 show Sq _ _ _ [0] _ _ _ _
 refine Sq.quiet (i := 0) rfl (Want.none rfl) rfl (ltN rfl) (QP.assign rfl rfl).read ?_
 refine Sq.nil ?_
 refine hk1 _ _ ?_
 refine Run.seq fun k2 hk2 => ?_
 refine Run.region ?_
 show Sq _ _ _ [0, 1, 2, 3] _ _ _ _
 refine Sq.quiet (i := 0) rfl (Want.none rfl) rfl (ltN rfl) (QP.move rfl rfl).read ?_
 refine Sq.eff (i := 1) rfl (Want.none rfl) rfl (ltN rfl) (EF.invoke rfl rfl (fun w s => methV mLen (by repeat constructor) w s) ce74 rfl Takes.nil (fun F' hle hr => len_spec F')) ?_
 rintro _ _ ⟨_, ⟨rfl, rfl⟩, rfl⟩
 refine J.app ?_
 refine Sq.quiet (i := 2) rfl (Want.none rfl) rfl (ltN rfl) (QP.sub64 rfl rfl rfl (by omega) (by omega)).read ?_
 rw [show ((bsOf es0).length : Int) - 1 = (nn : Int) by rw [hbl]; omega]
 refine Sq.quiet (i := 3) rfl (Want.none rfl) rfl (ltN rfl) (QP.assign rfl rfl).read ?_
 refine Sq.nil ?_
 refine hk2 _ _ ?_
 refine Run.seq fun k3 hk3 => ?_
 refine Run.seq fun k4 hk4 => ?_
 refine Run.region ?_
 show Sq _ _ _ [0, 1, 2] _ _ _ _
 refine Sq.quiet (i := 0) rfl (Want.none rfl) rfl (ltN rfl) (QP.move rfl rfl).read ?_
 refine Sq.quiet (i := 1) rfl (Want.none rfl) rfl (ltN rfl) (QP.move rfl rfl).read ?_
 refine Sq.quiet (i := 2) rfl (Want.none rfl) rfl (ltN rfl) (QP.neq rfl rfl rfl).read ?_
 refine J.caseD (fun c11 => ?_) (fun c11 => ?_)
 ·skip
  refine Sq.nil ?_
  refine hk4 _ _ ?_
  refine Run.cond_t rfl ?_
  refine Run.seq fun k5 hk5 => ?_
  refine Run.region ?_
  show Sq _ _ _ [0, 1, 2, 3] _ _ _ _
  have hik : i ≠ nn := by omega
  have hsw := swap_at hik hx hy
  have hsl2 : (swapE es0 i nn x y).length = es0.length := by unfold swapE; rw [List.length_set, List.length_set]
  refine Sq.quiet (i := 0) rfl (Want.none rfl) rfl (ltN rfl) (QP.move rfl rfl).read ?_
  refine Sq.quiet (i := 1) rfl (Want.none rfl) rfl (ltN rfl) (QP.move rfl rfl).read ?_
  refine Sq.quiet (i := 2) rfl (Want.none rfl) rfl (ltN rfl) (QP.move rfl rfl).read ?_
  refine Sq.eff (i := 3) rfl (Want.none rfl) rfl (ltN rfl) (EF.invoke rfl rfl (fun w s => methV mSwap (by repeat constructor) w s) ce76 rfl (.cons (by repeat constructor) (.cons (by repeat constructor) Takes.nil)) (fun F' hle hr => swap0 F' (i := i) (k := nn) hik hx hy)) ?_
  rintro _ _ ⟨_, ⟨rfl, rfl⟩, rfl⟩
  refine J.app ?_
  rw [show qB b r a c es0 = qB b r a c (swapE es0 i nn x y) by unfold qB; rw [swap_len]]
  refine Sq.nil ?_
  refine hk5 _ _ ?_
  refine Run.seq fun k6 hk6 => ?_
  refine Run.region ?_
  show Sq _ _ _ [0, 1, 2, 3, 4] _ _ _ _
  refine Sq.quiet (i := 0) rfl (Want.none rfl) rfl (ltN rfl) (QP.move rfl rfl).read ?_
  refine Sq.quiet (i := 1) rfl (Want.none rfl) rfl (ltN rfl) (QP.move rfl rfl).read ?_
  refine Sq.quiet (i := 2) rfl (Want.none rfl) rfl (ltN rfl) (QP.move rfl rfl).read ?_
  refine Sq.eff (i := 3) rfl (Want.none rfl) rfl (ltN rfl) (EF.call rfl ce33 rfl (.cons (by repeat constructor) (.cons (by repeat constructor) (.cons (by repeat constructor) Takes.nil))) (fun F' hle hr => down_spec F' (es0 := swapE es0 i nn x y) nn (by rw [hsl2]; omega) (by rw [hsl2]; exact hN) (swap_placed hp hik hx hy) i (by omega) (remove_dn (by rw [← hnn]; exact hh) (by omega) hx hy))) ?_
  rintro _ _ ⟨_, ⟨es2, rb, rfl, hK2, hT2, hF2, rfl⟩, rfl⟩
  refine J.app ?_
  refine J.caseB (fun c19 => ?_) (fun c19 => ?_)
  ·skip
   refine Sq.quiet (i := 4) rfl (Want.none rfl) rfl (ltN rfl) (QP.not rfl rfl).read ?_
   refine Sq.nil ?_
   refine hk6 _ _ ?_
   refine Run.cond_f rfl ?_
   refine Run.skip ?_
   refine hk3 _ _ ?_
   refine Run.seq fun k7 hk7 => ?_
   refine Run.region ?_
   show Sq _ _ _ [0, 1, 2] _ _ _ _
   have hKK := hK2
   have hHH : HeapO nn (fD es2) := (hT2 c19)
   have hlx : es2[nn]? = some (x.1, { x.2 with place := (nn : Int) }) := (hKK.tail nn (Nat.le_refl _)).trans hsw.2.1
   obtain ⟨init, hin, hil⟩ := snoc_of (es := es2) (n := nn) (by rw [hKK.len, hsl2]; omega) hlx
   have hperm := hKK.perm.trans (swap_core hik hx hy)
   have hP0 := hKK.placed
   rw [hin] at hHH hperm hP0 ⊢
   have hH := heap_init (by rw [hil]; exact hHH)
   have hP := placed_init hP0
   refine Sq.quiet (i := 0) rfl (Want.none rfl) rfl (ltN rfl) (QP.move rfl rfl).read ?_
   refine Sq.eff (i := 1) rfl (Want.none rfl) rfl (ltN rfl) (EF.invoke rfl rfl (fun w s => methP mPop w s) ce77 rfl (.cons (by repeat constructor) (.cons (by repeat constructor) Takes.nil)) (fun F' hle hr => popR F' (es := init) (by omega))) ?_
   rintro _ _ ⟨_, ⟨rfl, rfl⟩, rfl⟩
   refine J.app ?_
   refine Sq.quiet (i := 2) rfl (Want.none rfl) rfl (ltN rfl) (QP.assign rfl rfl).read ?_
   refine Sq.nil ?_
   refine hk7 _ _ ?_
   refine Run.ret ?_
   refine J.openE (by repeat constructor) (fun _ g => (⟨(), rows_last g⟩ : ∃ _ : Unit, _)) fun _ => ?_
   refine J.app ?_
   exact J.ends (res_tmp rfl rfl) (.cons (by repeat constructor) (.cons (by repeat constructor) (.cons (by repeat constructor) Takes.nil))) ⟨init, x, hx, by simp only [List.map_append, List.map_cons, List.map_nil] at hperm; exact (List.perm_append_comm (l₁ := [coreE x]) (l₂ := init.map coreE)).trans hperm, hP, hH, rfl⟩
  ·skip
   refine Sq.quiet (i := 4) rfl (Want.none rfl) rfl (ltN rfl) (QP.not rfl rfl).read ?_
   refine Sq.nil ?_
   refine hk6 _ _ ?_
   refine Run.cond_t rfl ?_
   refine Run.region ?_
   show Sq _ _ _ [0, 1, 2] _ _ _ _
   refine Sq.quiet (i := 0) rfl (Want.none rfl) rfl (ltN rfl) (QP.move rfl rfl).read ?_
   refine Sq.quiet (i := 1) rfl (Want.none rfl) rfl (ltN rfl) (QP.move rfl rfl).read ?_
   refine Sq.eff (i := 2) rfl (Want.none rfl) rfl (ltN rfl) (EF.call rfl ce34 rfl (.cons (by repeat constructor) (.cons (by repeat constructor) (.cons (by repeat constructor) Takes.nil))) (fun F' hle hr => up_spec F' (es0 := es2) nn (by rw [hK2.len, hsl2]; omega) (by rw [hK2.len, hsl2]; exact hN) hK2.placed i (by omega) (hF2 c19))) ?_
   rintro _ _ ⟨_, ⟨es3, hK3, hH3, rfl⟩, rfl⟩
   refine J.app ?_
   refine Sq.nil ?_
   refine hk3 _ _ ?_
   refine Run.seq fun k8 hk8 => ?_
   refine Run.region ?_
   show Sq _ _ _ [0, 1, 2] _ _ _ _
   have hKK := (hK2.trans hK3)
   have hHH : HeapO nn (fD es3) := hH3
   have hlx : es3[nn]? = some (x.1, { x.2 with place := (nn : Int) }) := (hKK.tail nn (Nat.le_refl _)).trans hsw.2.1
   obtain ⟨init, hin, hil⟩ := snoc_of (es := es3) (n := nn) (by rw [hKK.len, hsl2]; omega) hlx
   have hperm := hKK.perm.trans (swap_core hik hx hy)
   have hP0 := hKK.placed
   rw [hin] at hHH hperm hP0 ⊢
   have hH := heap_init (by rw [hil]; exact hHH)
   have hP := placed_init hP0
   refine Sq.quiet (i := 0) rfl (Want.none rfl) rfl (ltN rfl) (QP.move rfl rfl).read ?_
   refine Sq.eff (i := 1) rfl (Want.none rfl) rfl (ltN rfl) (EF.invoke rfl rfl (fun w s => methP mPop w s) ce77 rfl (.cons (by repeat constructor) (.cons (by repeat constructor) Takes.nil)) (fun F' hle hr => popR F' (es := init) (by omega))) ?_
   rintro _ _ ⟨_, ⟨rfl, rfl⟩, rfl⟩
   refine J.app ?_
   refine Sq.quiet (i := 2) rfl (Want.none rfl) rfl (ltN rfl) (QP.assign rfl rfl).read ?_
   refine Sq.nil ?_
   refine hk8 _ _ ?_
   refine Run.ret ?_
   refine J.openE (by repeat constructor) (fun _ g => (⟨(), rows_last g⟩ : ∃ _ : Unit, _)) fun _ => ?_
   refine J.app ?_
   exact J.ends (res_tmp rfl rfl) (.cons (by repeat constructor) (.cons (by repeat constructor) (.cons (by repeat constructor) Takes.nil))) ⟨init, x, hx, by simp only [List.map_append, List.map_cons, List.map_nil] at hperm; exact (List.perm_append_comm (l₁ := [coreE x]) (l₂ := init.map coreE)).trans hperm, hP, hH, rfl⟩
 ·skip
  refine Sq.nil ?_
  refine hk4 _ _ ?_
  refine Run.cond_f rfl ?_
  refine Run.skip ?_
  refine hk3 _ _ ?_
  refine Run.seq fun k9 hk9 => ?_
  refine Run.region ?_
  show Sq _ _ _ [0, 1, 2] _ _ _ _
  obtain ⟨init, hin, hil⟩ := snoc_of (es := es0) (n := i) (x := x) (by omega) hx
  subst hin
  have hH := heap_init (heap_less hh (by simp))
  have hP := placed_init hp
  refine Sq.quiet (i := 0) rfl (Want.none rfl) rfl (ltN rfl) (QP.move rfl rfl).read ?_
  refine Sq.eff (i := 1) rfl (Want.none rfl) rfl (ltN rfl) (EF.invoke rfl rfl (fun w s => methP mPop w s) ce77 rfl (.cons (by repeat constructor) (.cons (by repeat constructor) Takes.nil)) (fun F' hle hr => popR F' (es := init) (by omega))) ?_
  rintro _ _ ⟨_, ⟨rfl, rfl⟩, rfl⟩
  refine J.app ?_
  refine Sq.quiet (i := 2) rfl (Want.none rfl) rfl (ltN rfl) (QP.assign rfl rfl).read ?_
  refine Sq.nil ?_
  refine hk9 _ _ ?_
  refine Run.ret ?_
  refine J.openE (by repeat constructor) (fun _ g => (⟨(), rows_last g⟩ : ∃ _ : Unit, _)) fun _ => ?_
  refine J.app ?_
  exact J.ends (res_tmp rfl rfl) (.cons (by repeat constructor) (.cons (by repeat constructor) (.cons (by repeat constructor) Takes.nil))) ⟨init, x, hx, by simp only [List.map_append, List.map_cons, List.map_nil]; exact (List.perm_append_comm (l₁ := init.map coreE) (l₂ := [coreE x])).symm, hP, hH, rfl⟩
end Slb
