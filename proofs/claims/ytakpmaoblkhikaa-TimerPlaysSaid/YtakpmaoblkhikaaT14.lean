/- T14: a part of the proof that a law of this package holds for every input; no condition. -/
import Derived.Test.YtakpmaoblkhikaaT12
namespace Slb
open Go Go.Proofs
set_option maxRecDepth 20000
theorem str_eq {a b : ByteArray} : a.data.toList = b.data.toList ↔ a = b := by
  constructor
  · intro h
    obtain ⟨⟨a⟩⟩ := a
    obtain ⟨⟨b⟩⟩ := b
    simp only at h
    rw [h]
  · rintro rfl; rfl
theorem cancel_E (ss : List ByteArray) : cancelF [] ss = ([], 0) := by
  unfold cancelF
  induction ss with
  | nil => rfl
  | cons s ss ih =>
    rw [List.foldl_cons]
    exact ih
theorem has_del (L : List Due) (s : ByteArray) : hasD (delD L s) s = false := by
  refine Bool.eq_false_iff.2 fun h => ?_
  obtain ⟨d, hd, hn⟩ := hasD_iff.1 h
  have := (List.mem_filter.1 hd).2
  simp [hn] at this
theorem has_set (L : List Due) (n : ByteArray) (t : Int) (m : ByteArray) : hasD (setD L n t) m = (decide (n = m) || hasD L m) := by
  rw [Bool.eq_iff_iff, hasD_iff, Bool.or_eq_true, decide_eq_true_eq, hasD_iff]
  constructor
  · rintro ⟨d, hd, rfl⟩
    rcases List.mem_cons.1 ((insD_perm _ _).subset hd) with rfl | hd
    · exact .inl rfl
    · exact .inr ⟨d, (List.mem_filter.1 hd).1, rfl⟩
  · rintro h
    by_cases hn : n = m
    · exact ⟨_, (insD_perm _ _).symm.subset List.mem_cons_self, hn⟩
    · rcases h with h | ⟨d, hd, rfl⟩
      · exact absurd h hn
      · exact ⟨d, (insD_perm _ _).symm.subset (List.mem_cons_of_mem _ (List.mem_filter.2 ⟨hd, by simpa using fun h => hn h.symm⟩)), rfl⟩
theorem has_setR {L : List Due} (hl : L.length < 4096) (n : ByteArray) (t : Int) (m : ByteArray) : hasD (setR L n t).2 m = (decide (n = m) || hasD L m) := by
  unfold setR
  rw [if_neg (by rintro ⟨_, h⟩; omega)]
  exact has_set L n t m
theorem setR_len (L : List Due) (n : ByteArray) (t : Int) : (setR L n t).2.length ≤ L.length + 1 := by
  unfold setR
  split
  · exact Nat.le_succ _
  · rw [set_len]
    have := del_len L n
    omega
theorem RangeD.sub {L L2 : List Due} (h : RangeD L) (hs : L2.Sublist L) : RangeD L2 := fun d hd => h d (hs.subset hd)
theorem RangeD.del {L : List Due} (h : RangeD L) (s : ByteArray) : RangeD (delD L s) := h.sub List.filter_sublist
theorem del_count {L : List Due} (hn : (L.map (·.name)).Nodup) {s : ByteArray} (h : hasD L s = true) : (delD L s).length + 1 = L.length := by
  obtain ⟨d, hd, rfl⟩ := hasD_iff.1 h
  obtain ⟨A, B, rfl⟩ := List.append_of_mem hd
  have hp : (A ++ d :: B).Perm (d :: (A ++ B)) := List.perm_middle
  rw [(del_rest hn hp).length_eq, hp.length_eq]
  rfl
theorem cancel2 (s : ByteArray) {L : List Due} (hn : (L.map (·.name)).Nodup) : ∃ g : Int, cancelF L [s, s] = (delD L s, g) ∧ decide (g = 1) = hasD L s ∧ ((delD L s).length : Int) = L.length - g ∧ 0 ≤ g ∧ g ≤ 1 := by
  unfold cancelF
  rw [List.foldl_cons, List.foldl_cons, List.foldl_nil]
  cases h : hasD L s with
  | true =>
    refine ⟨1, ?_, rfl, ?_, by omega, by omega⟩
    · rw [show cstep (L, 0) s = (delD L s, 1) from if_pos h]
      exact if_neg (by rw [has_del]; simp)
    · have := del_count hn h
      omega
  | false =>
    have e : cstep (L, 0) s = (L, 0) := if_neg (by rw [h]; simp)
    refine ⟨0, ?_, rfl, ?_, by omega, by omega⟩
    · rw [e, e, delD_none h]
    · rw [delD_none h]; omega
theorem pop_drop {D : List Due} (h : RangeD D) {i : Nat} {y : Due} (hy : y = (D[i]?).getD Due.zero) : popD (D.drop i) 9223372036854775807 = (y, (D[i]?).isSome, D.drop (i + 1)) := by
  rw [pop_max (h.sub (List.drop_sublist _ _)), List.head?_drop, List.tail_drop, hy]
theorem get_y {D : List Due} {i : Nat} {y : Due} (hy : y = (D[i]?).getD Due.zero) (h : (D[i]?).isSome = true) : D[i]? = some y := by
  obtain ⟨d, hd⟩ := Option.isSome_iff_exists.1 h
  rw [hy, hd]; rfl
theorem not_y {L : List Due} {s : ByteArray} {i : Nat} {y : Due} (hy : y = ((delD L s)[i]?).getD Due.zero) (h : ((delD L s)[i]?).isSome = true) : y.name ≠ s := by
  have := (List.mem_filter.1 (List.mem_of_getElem? (get_y hy h))).2
  simpa using this
theorem fresh_y {D : List Due} (hn : (D.map (·.name)).Nodup) {i : Nat} {y : Due} (hy : D[i]? = some y) : hasD (D.drop (i + 1)) y.name = false := by
  refine Bool.eq_false_iff.2 fun h => ?_
  obtain ⟨d, hd, he⟩ := hasD_iff.1 h
  obtain ⟨h1, e1⟩ := List.getElem?_eq_some_iff.1 hy
  have e2 : D.drop i = y :: D.drop (i + 1) := by rw [← e1]; exact List.drop_eq_getElem_cons h1
  have h2 : ((D.drop i).map (·.name)).Nodup := hn.sublist ((List.drop_sublist i D).map _)
  rw [e2, List.map_cons, List.nodup_cons] at h2
  exact h2.1 (List.mem_map.2 ⟨d, hd, he⟩)
theorem put_back {L : List Due} {s : ByteArray} (hno : hasD L s = false) (t : Int) : (cancelF (setR L s t).2 [s]).1 = L := by
  unfold cancelF
  rw [List.foldl_cons, List.foldl_nil]
  unfold setR
  split
  · unfold cstep
    rw [if_neg (by rw [hno]; simp)]
  · unfold cstep
    rw [if_pos (by rw [has_set]; simp)]
    show delD (setD L s t) s = L
    have hp := insD_perm ⟨s, t⟩ (delD L s)
    rw [delD_none hno] at hp
    unfold setD
    rw [delD_none hno]
    have : ∀ L : List Due, hasD L s = false → delD (insD ⟨s, t⟩ L) s = L := by
      intro L
      induction L with
      | nil => intro _; simp [insD, delD]
      | cons x L ih =>
        intro h
        have hx : ¬ x.name = s := fun hx => by rw [hasD_iff.2 ⟨x, List.mem_cons_self, hx⟩] at h; cases h
        have hL : hasD L s = false := Bool.eq_false_iff.2 fun h2 => by
          obtain ⟨d, hd, hn⟩ := hasD_iff.1 h2
          rw [hasD_iff.2 ⟨d, List.mem_cons_of_mem _ hd, hn⟩] at h; cases h
        unfold insD
        split
        · unfold delD
          rw [List.filter_cons, if_neg (by simp)]
          exact delD_none h
        · have := ih hL
          unfold delD at this ⊢
          rw [List.filter_cons, if_pos (by simpa using hx), this]
    exact this L hno
theorem cancelN (F : Fr) {b : Nat} {L : List Due} {ns : List ByteArray} {an : Option Addr} {cn : Nat} (hl : ns.length ≤ 1000000) (hsz : ∀ s ∈ ns, s.size ≤ maxLen) : Spec Try.prog 14 #[fp b, .slice an ns.length cn] [slA 9 1 (fun s : ByteArray => [Value.string s]) (.slice an ns.length cn) ns, QA b L] F
    fun v S => v = .int .i64 (cancelF L ns).2 ∧ S = [slA 9 1 (fun s : ByteArray => [Value.string s]) (.slice an ns.length cn) ns, QA b (cancelF L ns).1] :=
  (Spec.lendSl (enc := fun s : ByteArray => [Value.string s]) (fun _ => rfl) fun F2 _ h2 => cancelA F2 hl h2 hsz).mono fun v S ⟨S1, ⟨h1, h2⟩, h3⟩ => ⟨h1, by rw [h3, h2]⟩
theorem names_succ {xs : List Law04Act} {i : Nat} {x : Law04Act} (h : xs[i]? = some x) : (xs.take i).map (·.name) ++ [x.name] = (xs.take (i + 1)).map (·.name) := by
  rw [take_succ_get h, List.map_append]
  rfl
theorem names_size {xs : List Law04Act} {i : Nat} {x : Law04Act} (h : xs[i]? = some x) (hx : x.name.size ≤ maxLen) (h0 : ∀ n ∈ (xs.take i).map (·.name), n.size ≤ maxLen) : ∀ n ∈ (xs.take (i + 1)).map (·.name), n.size ≤ maxLen := by
  rw [← names_succ h]
  intro n hn
  rcases List.mem_append.1 hn with hn | hn
  · exact h0 n hn
  · rw [List.mem_singleton.1 hn]; exact hx

set_option maxHeartbeats 3200000 in
theorem law_cancels (F : Fr) {a : Option Addr} {c : Nat} {xs : List Law04Act} (hx0 : xs.length ≤ 9223372036854775807) (ha : ArgSl F a 3 Law04Act.enc xs) (hw : ∀ x ∈ xs, x.WF) (s : ByteArray) : Spec Try.prog 4 #[.slice a xs.length c, .string s] [] F (fun v S => v = .bool true ∧ S = []) := by
 refine Spec.intro (N := 148) (args := [.slice a xs.length c, .string s]) Try.func4 rfl rfl (by simp) ?_
 refine Run.seq fun k1 hk1 => ?_
 refine Run.region ?_
 show Sq _ _ _ [0] _ _ _ _
 refine Sq.quiet (i := 0) rfl (Want.none rfl) rfl (ltN rfl) (QP.assign rfl rfl).read ?_
 refine Sq.nil ?_
 refine hk1 _ _ ?_
 refine Run.seq fun k2 hk2 => ?_
 refine Run.seq fun k3 hk3 => ?_
 refine Run.region ?_
 show Sq _ _ _ [0, 1, 2, 3, 4, 5, 6, 7] _ _ _ _
 refine Sq.quiet (i := 0) rfl (Want.none rfl) rfl (ltN rfl) (QP.move rfl rfl).read ?_
 refine Sq.quiet (i := 1) rfl (Want.none rfl) rfl (ltN rfl) (QP.len rfl rfl rfl Try.underlying32).read ?_
 refine Sq.quiet (i := 2) rfl (Want.none rfl) rfl (ltN rfl) (QP.gtr rfl rfl rfl).read ?_
 refine J.caseD (fun c18 => ?_) (fun c18 => ?_)
 ·skip
  refine Sq.quiet (i := 3) rfl (Want.none rfl) rfl (ltN rfl) (QP.move rfl rfl).read ?_
  refine Sq.skip (i := 4) rfl (Want.no rfl rfl rfl rfl) rfl (ltN rfl) ?_
  refine Sq.skip (i := 5) rfl (Want.no rfl rfl rfl rfl) rfl (ltN rfl) ?_
  refine Sq.skip (i := 6) rfl (Want.no rfl rfl rfl rfl) rfl (ltN rfl) ?_
  refine Sq.quiet (i := 7) rfl (Want.none rfl) rfl (ltN rfl) (QP.pick_t rfl rfl rfl).read ?_
  refine Sq.nil ?_
  refine hk3 _ _ ?_
  refine Run.cond_t rfl ?_
  refine Run.seq fun k4 hk4 => ?_
  refine Run.region ?_
  show Sq _ _ _ [0, 1] _ _ _ _
  refine Sq.eff (i := 0) rfl (Want.none rfl) rfl (ltN rfl) (EF.call rfl ce9 rfl Takes.nil (fun F' hle hr => live_spec F')) ?_
  rintro _ _ ⟨_, ⟨rfl, rfl⟩, rfl⟩
  refine J.app ?_
  refine Sq.quiet (i := 1) rfl (Want.none rfl) rfl (ltN rfl) (QP.assign rfl rfl).read ?_
  refine Sq.nil ?_
  refine hk4 _ _ ?_
  refine Run.ret ?_
  exact J.ends (res_tmp rfl rfl) Takes.nil ⟨rfl, rfl⟩
 ·skip
  refine Sq.quiet (i := 3) rfl (Want.none rfl) rfl (ltN rfl) (QP.move rfl rfl).read ?_
  refine Sq.quiet (i := 4) rfl (Want.yes rfl rfl rfl rfl) rfl (ltN rfl) (QP.move rfl rfl).read ?_
  refine Sq.quiet (i := 5) rfl (Want.yes rfl rfl rfl rfl) rfl (ltN rfl) (QP.lenS rfl rfl rfl Try.underlying9).read ?_
  refine Sq.quiet (i := 6) rfl (Want.yes rfl rfl rfl rfl) rfl (ltN rfl) (QP.gtr rfl rfl rfl).read ?_
  refine J.caseD (fun c22 => ?_) (fun c22 => ?_)
  ·skip
   refine Sq.quiet (i := 7) rfl (Want.none rfl) rfl (ltN rfl) (QP.pick_f rfl rfl rfl).read ?_
   refine Sq.nil ?_
   refine hk3 _ _ ?_
   refine Run.cond_t rfl ?_
   refine Run.seq fun k5 hk5 => ?_
   refine Run.region ?_
   show Sq _ _ _ [0, 1] _ _ _ _
   refine Sq.eff (i := 0) rfl (Want.none rfl) rfl (ltN rfl) (EF.call rfl ce9 rfl Takes.nil (fun F' hle hr => live_spec F')) ?_
   rintro _ _ ⟨_, ⟨rfl, rfl⟩, rfl⟩
   refine J.app ?_
   refine Sq.quiet (i := 1) rfl (Want.none rfl) rfl (ltN rfl) (QP.assign rfl rfl).read ?_
   refine Sq.nil ?_
   refine hk5 _ _ ?_
   refine Run.ret ?_
   exact J.ends (res_tmp rfl rfl) Takes.nil ⟨rfl, rfl⟩
  ·skip
   refine Sq.quiet (i := 7) rfl (Want.none rfl) rfl (ltN rfl) (QP.pick_f rfl rfl rfl).read ?_
   refine Sq.nil ?_
   refine hk3 _ _ ?_
   refine Run.cond_f rfl ?_
   refine Run.skip ?_
   refine hk2 _ _ ?_
   refine Run.seq fun k6 hk6 => ?_
   refine Run.region ?_
   show Sq _ _ _ [0, 1] _ _ _ _
   refine Sq.eff (i := 0) rfl (Want.none rfl) rfl (ltN rfl) (EF.call rfl ce10 rfl Takes.nil (fun F' hle hr => newA F')) ?_
   rintro _ _ ⟨_, ⟨tb, rfl, rfl⟩, rfl⟩
   refine J.app ?_
   refine Sq.quiet (i := 1) rfl (Want.none rfl) rfl (ltN rfl) (QP.assign rfl rfl).read ?_
   refine Sq.nil ?_
   refine hk6 _ _ ?_
   refine Run.seq fun k7 hk7 => ?_
   refine Run.seq fun k8 hk8 => ?_
   refine Run.region ?_
   show Sq _ _ _ [0, 1] _ _ _ _
   refine Sq.quiet (i := 0) rfl (Want.none rfl) rfl (ltN rfl) (QP.move rfl rfl).read ?_
   refine Sq.quiet (i := 1) rfl (Want.none rfl) rfl (ltN rfl) (QP.ptr_eq_nil rfl rfl rfl Try.underlying23).read ?_
   refine Sq.nil ?_
   refine hk8 _ _ ?_
   refine Run.cond_f rfl ?_
   refine Run.skip ?_
   refine hk7 _ _ ?_
   refine Run.seq fun k9 hk9 => ?_
   refine Run.region ?_
   show Sq _ _ _ [0] _ _ _ _
   have hss : s.size ≤ maxLen := by unfold maxLen; omega
   refine J.addSl 9 1 (fun s : ByteArray => [Value.string s]) ?_
   refine Sq.quiet (i := 0) rfl (Want.none rfl) rfl (ltN rfl) (QP.assign rfl rfl).read ?_
   refine Sq.nil ?_
   refine hk9 _ _ ?_
   refine Run.seq fun k10 hk10 => ?_
   refine Run.region ?_
   show Sq _ _ _ [0] _ _ _ _
   refine Sq.quiet (i := 0) rfl (Want.none rfl) rfl (ltN rfl) (QP.assign rfl rfl).read ?_
   refine Sq.nil ?_
   refine hk10 _ _ ?_
   refine Run.seq fun k11 hk11 => ?_
   refine Run.seq fun k12 hk12 => ?_
   refine Run.region ?_
   show Sq _ _ _ [0] _ _ _ _
   refine Sq.quiet (i := 0) rfl (Want.none rfl) rfl (ltN rfl) (QP.assign rfl rfl).read ?_
   refine Sq.nil ?_
   refine hk12 _ _ ?_
   refine Run.block ?_
   refine Run.loop4 (fun (i : Nat) (L : List Due) (bt : Bool) (va : Value) => i ≤ xs.length ∧ RangeD L ∧ L.length ≤ i ∧ bt = hasD L s ∧ ∀ n ∈ ((xs.take i).map (·.name)), n.size ≤ maxLen) (fun i L bt va => .cons 0 (.slice a xs.length c) (.cons 1 (.string s) (.cons 5 (fp tb) (.cons 6 (va) (.cons 7 (.bool bt) (.cons 8 (.int .i64 i) (.nil))))))) (fun i L bt va => [QA tb L, slA 9 1 (fun s : ByteArray => [Value.string s]) va ((xs.take i).map (·.name))]) (fun i L bt va => xs.length - i) (0) ([]) (false) (.slice none 0 0) (⟨Nat.zero_le _, RangeD.nil, Nat.le_refl _, rfl, by simp⟩) ?_ ?_
   ·exact fun _ j => J.envJ (J.keep (.cons (by repeat constructor) (.cons (by repeat constructor) Takes.nil)) j) ⟨rfl, rfl, rfl, rfl, rfl, rfl, trivial⟩
   rintro i L bt va ⟨hile, hRL, hLl, hbt, hNs⟩ kl13 hl13
   refine Run.seq fun k14 hk14 => ?_
   refine Run.seq fun k15 hk15 => ?_
   refine Run.region ?_
   show Sq _ _ _ [0, 1, 2, 3] _ _ _ _
   refine Sq.quiet (i := 0) rfl (Want.none rfl) rfl (ltN rfl) (QP.move rfl rfl).read ?_
   refine Sq.quiet (i := 1) rfl (Want.none rfl) rfl (ltN rfl) (QP.move rfl rfl).read ?_
   refine Sq.quiet (i := 2) rfl (Want.none rfl) rfl (ltN rfl) (QP.len rfl rfl rfl Try.underlying32).read ?_
   refine Sq.quiet (i := 3) rfl (Want.none rfl) rfl (ltN rfl) (QP.lss rfl rfl rfl).read ?_
   refine J.caseD (fun c31 => ?_) (fun c31 => ?_)
   ·skip
    refine Sq.nil ?_
    refine hk15 _ _ ?_
    refine Run.cond_t rfl ?_
    refine Run.skip ?_
    refine hk14 _ _ ?_
    refine Run.seq fun k16 hk16 => ?_
    refine Run.block ?_
    refine Run.seq fun k17 hk17 => ?_
    refine Run.seq fun k18 hk18 => ?_
    refine Run.region ?_
    show Sq _ _ _ [0, 1, 2, 3, 4, 5, 6] _ _ _ _
    obtain ⟨x, hj⟩ : ∃ x, xs[i]? = some x := ⟨_, List.getElem?_eq_getElem (by omega)⟩
    obtain ⟨b1, o1, hax, hs2⟩ := ha.get (by omega)
    have hxm := List.mem_of_getElem? hj
    obtain ⟨hxk, -, hxt⟩ := hw x hxm
    subst hax
    refine Sq.quiet (i := 0) rfl (Want.none rfl) rfl (ltN rfl) (QP.move rfl rfl).read ?_
    refine Sq.quiet (i := 1) rfl (Want.none rfl) rfl (ltN rfl) (QP.move rfl rfl).read ?_
    refine Sq.quiet (i := 2) rfl (Want.none rfl) rfl (ltN rfl) (QP.indexAddr rfl rfl rfl Try.underlying32 z35 (by first | omega | (simp <;> omega)) (by first | omega | (simp <;> omega))).read ?_
    refine Sq.quiet (i := 3) rfl (Want.none rfl) rfl (ltN rfl) (QP.fieldAddr rfl rfl f35_1).read ?_
    refine Sq.quiet (i := 4) rfl (Want.none rfl) rfl (ltN rfl) (QR.loadSlF1 rfl rfl g9 Law04Act.enc_len (hs2 _) hj (Law04Act.sub_name _)) ?_
    refine Sq.quiet (i := 5) rfl (Want.none rfl) rfl (ltN rfl) (QP.lenS rfl rfl rfl Try.underlying9).read ?_
    refine Sq.quiet (i := 6) rfl (Want.none rfl) rfl (ltN rfl) (QP.gtr rfl rfl rfl).read ?_
    refine J.caseD (fun c40 => ?_) (fun c40 => ?_)
    ·skip
     refine Sq.nil ?_
     refine hk18 _ _ ?_
     refine Run.cond_t rfl ?_
     refine Run.seq fun k19 hk19 => ?_
     refine Run.region ?_
     show Sq _ _ _ [0, 1] _ _ _ _
     refine Sq.eff (i := 0) rfl (Want.none rfl) rfl (ltN rfl) (EF.call rfl ce9 rfl Takes.nil (fun F' hle hr => live_spec F')) ?_
     rintro _ _ ⟨_, ⟨rfl, rfl⟩, rfl⟩
     refine J.app ?_
     refine Sq.quiet (i := 1) rfl (Want.none rfl) rfl (ltN rfl) (QP.assign rfl rfl).read ?_
     refine Sq.nil ?_
     refine hk19 _ _ ?_
     refine Run.ret ?_
     exact J.ends (res_tmp rfl rfl) Takes.nil ⟨rfl, rfl⟩
    ·skip
     refine Sq.nil ?_
     refine hk18 _ _ ?_
     refine Run.cond_f rfl ?_
     refine Run.skip ?_
     refine hk17 _ _ ?_
     refine Run.seq fun k20 hk20 => ?_
     refine Run.regionD (M := [0, 0, 0, 6, 14, 30, 0, 0, 192, 448, 960, 2047]) (q := 2047) (r := 1056) (by kernel_rfl) ?_
     have hxs : x.name.size ≤ maxLen := by unfold maxLen; omega
     refine Dw.pure (i := 0) rfl (by kernel_rfl) (Want.none rfl) rfl (ltN rfl) (QP.move rfl rfl) ?_
     refine Dw.pure (i := 1) rfl (by kernel_rfl) (Want.none rfl) rfl (ltN rfl) (QP.move rfl rfl) ?_
     refine Dw.pure (i := 2) rfl (by kernel_rfl) (Want.none rfl) rfl (ltN rfl) (QP.move rfl rfl) ?_
     refine Dw.pure (i := 3) rfl (by kernel_rfl) (Want.none rfl) rfl (ltN rfl) (QP.indexAddr rfl rfl rfl Try.underlying32 z35 (by first | omega | (simp <;> omega)) (by first | omega | (simp <;> omega))) ?_
     refine Dw.pure (i := 4) rfl (by kernel_rfl) (Want.none rfl) rfl (ltN rfl) (QP.fieldAddr rfl rfl f35_1) ?_
     refine Dw.read (i := 5) rfl (by kernel_rfl) (Want.none rfl) rfl (ltN rfl) (QR.loadSlF1 rfl rfl g9 Law04Act.enc_len (hs2 _) hj (Law04Act.sub_name _)) ?_
     refine Dw.pure (i := 6) rfl (by kernel_rfl) (Want.none rfl) rfl (ltN rfl) (QP.move rfl rfl) ?_
     refine Dw.pure (i := 7) rfl (by kernel_rfl) (Want.none rfl) rfl (ltN rfl) (QP.move rfl rfl) ?_
     refine Dw.pure (i := 8) rfl (by kernel_rfl) (Want.none rfl) rfl (ltN rfl) (QP.indexAddr rfl rfl rfl Try.underlying32 z35 (by first | omega | (simp <;> omega)) (by first | omega | (simp <;> omega))) ?_
     refine Dw.pure (i := 9) rfl (by kernel_rfl) (Want.none rfl) rfl (ltN rfl) (QP.fieldAddr rfl rfl f35_2) ?_
     refine Dw.read (i := 10) rfl (by kernel_rfl) (Want.none rfl) rfl (ltN rfl) (QR.loadSlF1 rfl rfl g3 Law04Act.enc_len (hs2 _) hj (Law04Act.sub_at_ _)) ?_
     refine Dw.eff (i := 11) (by kernel_rfl) (by kernel_rfl) ?_
     refine One.mk (o := _) (l := []) rfl (by kernel_rfl) (Want.none rfl) rfl (ltN rfl) (EF.call rfl ce11 rfl (.cons (by repeat constructor) Takes.nil) (fun F' hle hr => setA F' (L := L) (⟨x.name, hxs⟩ : Str) x.at_)) (by kernel_rfl) ?_
     rintro _ _ ⟨_, ⟨rfl, rfl⟩, rfl⟩
     refine ⟨fun _ h => (by cases h), ?_⟩
     refine J.app ?_
     refine Dw.nil (by kernel_rfl) ?_
     refine hk20 _ _ ?_
     refine Run.seq fun k21 hk21 => ?_
     refine Run.region ?_
     show Sq _ _ _ [0, 1, 2, 3, 4, 5, 6, 7, 8] _ _ _ _
     refine Sq.quiet (i := 0) rfl (Want.none rfl) rfl (ltN rfl) (QP.move rfl rfl).read ?_
     refine Sq.quiet (i := 1) rfl (Want.none rfl) rfl (ltN rfl) (QP.move rfl rfl).read ?_
     refine Sq.quiet (i := 2) rfl (Want.none rfl) rfl (ltN rfl) (QP.move rfl rfl).read ?_
     refine Sq.quiet (i := 3) rfl (Want.none rfl) rfl (ltN rfl) (QP.indexAddr rfl rfl rfl Try.underlying32 z35 (by first | omega | (simp <;> omega)) (by first | omega | (simp <;> omega))).read ?_
     refine Sq.quiet (i := 4) rfl (Want.none rfl) rfl (ltN rfl) (QP.fieldAddr rfl rfl f35_1).read ?_
     refine Sq.quiet (i := 5) rfl (Want.none rfl) rfl (ltN rfl) (QR.loadSlF1 rfl rfl g9 Law04Act.enc_len (hs2 _) hj (Law04Act.sub_name _)) ?_
     refine Sq.eff (i := 6) rfl (Want.none rfl) rfl (ltN rfl) (EF.buildSliceS rfl Try.underlying33 z9 zero9 rfl (by decide) rfl rfl rfl rfl) ?_
     rintro _ _ ⟨b60, rfl, rfl⟩
     refine Sq.eff (i := 7) rfl (Want.none rfl) rfl (ltN rfl) (EF.append1 (xs := ((xs.take i).map (·.name))) (s := _) el9 (fun _ => rfl) (fun _ => cell_one rfl) rfl rfl rfl Try.underlying33 Try.underlying33 rfl rfl (by repeat constructor) (by repeat constructor) (by first | omega | (simp <;> omega))) ?_
     rintro sl61 _ rfl
     refine Sq.quiet (i := 8) rfl (Want.none rfl) rfl (ltN rfl) (QP.assign rfl rfl).read ?_
     refine Sq.nil ?_
     refine hk21 _ _ ?_
     refine Run.region ?_
     show Sq _ _ _ [0, 1, 2, 3, 4, 5, 6, 7, 8, 9, 10] _ _ _ _
     refine Sq.quiet (i := 0) rfl (Want.none rfl) rfl (ltN rfl) (QP.move rfl rfl).read ?_
     refine J.caseB (fun c62 => ?_) (fun c62 => ?_)
     ·skip
      refine Sq.quiet (i := 1) rfl (Want.none rfl) rfl (ltN rfl) (QP.move rfl rfl).read ?_
      refine Sq.skip (i := 2) rfl (Want.no rfl rfl rfl rfl) rfl (ltN rfl) ?_
      refine Sq.skip (i := 3) rfl (Want.no rfl rfl rfl rfl) rfl (ltN rfl) ?_
      refine Sq.skip (i := 4) rfl (Want.no rfl rfl rfl rfl) rfl (ltN rfl) ?_
      refine Sq.skip (i := 5) rfl (Want.no rfl rfl rfl rfl) rfl (ltN rfl) ?_
      refine Sq.skip (i := 6) rfl (Want.no rfl rfl rfl rfl) rfl (ltN rfl) ?_
      refine Sq.skip (i := 7) rfl (Want.no rfl rfl rfl rfl) rfl (ltN rfl) ?_
      refine Sq.skip (i := 8) rfl (Want.no rfl rfl rfl rfl) rfl (ltN rfl) ?_
      refine Sq.quiet (i := 9) rfl (Want.none rfl) rfl (ltN rfl) (QP.pick_t rfl rfl rfl).read ?_
      refine Sq.quiet (i := 10) rfl (Want.none rfl) rfl (ltN rfl) (QP.assign rfl rfl).read ?_
      refine Sq.nil ?_
      refine hk16 _ _ ?_
      refine Run.region ?_
      show Sq _ _ _ [0, 1, 2] _ _ _ _
      refine Sq.slEq (v := sl61) (by repeat constructor) (names_succ hj) ?_
      refine Sq.quiet (i := 0) rfl (Want.none rfl) rfl (ltN rfl) (QP.move rfl rfl).read ?_
      refine Sq.quiet (i := 1) rfl (Want.none rfl) rfl (ltN rfl) (QP.add64 rfl rfl rfl (by first | omega | (simp <;> omega)) (by first | omega | (simp <;> omega))).read ?_
      refine Sq.quiet (i := 2) rfl (Want.none rfl) rfl (ltN rfl) (QP.assign rfl rfl).read ?_
      refine Sq.nil ?_
      exact J.envJ (J.keep (.cons (by repeat constructor) (.cons (by repeat constructor) Takes.nil)) (hl13 (i + 1) ((setR L x.name x.at_).2) (true) (sl61) (⟨by omega, hRL.set hxt, by have := setR_len L x.name x.at_; omega, by rw [has_setR (by omega), ← hbt, c62]; simp, names_size hj hxs hNs⟩) (by omega))) ⟨rfl, rfl, rfl, rfl, rfl, rfl, trivial⟩
     ·skip
      refine Sq.quiet (i := 1) rfl (Want.none rfl) rfl (ltN rfl) (QP.move rfl rfl).read ?_
      refine Sq.quiet (i := 2) rfl (Want.yes rfl rfl rfl rfl) rfl (ltN rfl) (QP.move rfl rfl).read ?_
      refine Sq.quiet (i := 3) rfl (Want.yes rfl rfl rfl rfl) rfl (ltN rfl) (QP.move rfl rfl).read ?_
      refine Sq.quiet (i := 4) rfl (Want.yes rfl rfl rfl rfl) rfl (ltN rfl) (QP.indexAddr rfl rfl rfl Try.underlying32 z35 (by first | omega | (simp <;> omega)) (by first | omega | (simp <;> omega))).read ?_
      refine Sq.quiet (i := 5) rfl (Want.yes rfl rfl rfl rfl) rfl (ltN rfl) (QP.fieldAddr rfl rfl f35_1).read ?_
      refine Sq.quiet (i := 6) rfl (Want.yes rfl rfl rfl rfl) rfl (ltN rfl) (QR.loadSlF1 rfl rfl g9 Law04Act.enc_len (hs2 _) hj (Law04Act.sub_name _)) ?_
      refine Sq.quiet (i := 7) rfl (Want.yes rfl rfl rfl rfl) rfl (ltN rfl) (QP.move rfl rfl).read ?_
      refine Sq.quiet (i := 8) rfl (Want.yes rfl rfl rfl rfl) rfl (ltN rfl) (QP.eqS rfl rfl rfl).read ?_
      refine J.caseD (fun c70 => ?_) (fun c70 => ?_)
      ·skip
       refine Sq.quiet (i := 9) rfl (Want.none rfl) rfl (ltN rfl) (QP.pick_f rfl rfl rfl).read ?_
       refine Sq.quiet (i := 10) rfl (Want.none rfl) rfl (ltN rfl) (QP.assign rfl rfl).read ?_
       refine Sq.nil ?_
       refine hk16 _ _ ?_
       refine Run.region ?_
       show Sq _ _ _ [0, 1, 2] _ _ _ _
       refine Sq.slEq (v := sl61) (by repeat constructor) (names_succ hj) ?_
       refine Sq.quiet (i := 0) rfl (Want.none rfl) rfl (ltN rfl) (QP.move rfl rfl).read ?_
       refine Sq.quiet (i := 1) rfl (Want.none rfl) rfl (ltN rfl) (QP.add64 rfl rfl rfl (by first | omega | (simp <;> omega)) (by first | omega | (simp <;> omega))).read ?_
       refine Sq.quiet (i := 2) rfl (Want.none rfl) rfl (ltN rfl) (QP.assign rfl rfl).read ?_
       refine Sq.nil ?_
       exact J.envJ (J.keep (.cons (by repeat constructor) (.cons (by repeat constructor) Takes.nil)) (hl13 (i + 1) ((setR L x.name x.at_).2) (true) (sl61) (⟨by omega, hRL.set hxt, by have := setR_len L x.name x.at_; omega, by rw [has_setR (by omega), decide_eq_true (str_eq.1 c70)]; simp, names_size hj hxs hNs⟩) (by omega))) ⟨rfl, rfl, rfl, rfl, rfl, rfl, trivial⟩
      ·skip
       refine Sq.quiet (i := 9) rfl (Want.none rfl) rfl (ltN rfl) (QP.pick_f rfl rfl rfl).read ?_
       refine Sq.quiet (i := 10) rfl (Want.none rfl) rfl (ltN rfl) (QP.assign rfl rfl).read ?_
       refine Sq.nil ?_
       refine hk16 _ _ ?_
       refine Run.region ?_
       show Sq _ _ _ [0, 1, 2] _ _ _ _
       refine Sq.slEq (v := sl61) (by repeat constructor) (names_succ hj) ?_
       refine Sq.quiet (i := 0) rfl (Want.none rfl) rfl (ltN rfl) (QP.move rfl rfl).read ?_
       refine Sq.quiet (i := 1) rfl (Want.none rfl) rfl (ltN rfl) (QP.add64 rfl rfl rfl (by first | omega | (simp <;> omega)) (by first | omega | (simp <;> omega))).read ?_
       refine Sq.quiet (i := 2) rfl (Want.none rfl) rfl (ltN rfl) (QP.assign rfl rfl).read ?_
       refine Sq.nil ?_
       exact J.envJ (J.keep (.cons (by repeat constructor) (.cons (by repeat constructor) Takes.nil)) (hl13 (i + 1) ((setR L x.name x.at_).2) (false) (sl61) (⟨by omega, hRL.set hxt, by have := setR_len L x.name x.at_; omega, by rw [has_setR (by omega), ← hbt, decide_eq_false (fun h => c70 (str_eq.2 h)), show bt = false by simpa using c62]; simp, names_size hj hxs hNs⟩) (by omega))) ⟨rfl, rfl, rfl, rfl, rfl, rfl, trivial⟩
   ·skip
    refine Sq.nil ?_
    refine hk15 _ _ ?_
    refine Run.cond_f rfl ?_
    refine Run.exit rfl ?_
    refine hk11 _ _ ?_
    refine Run.seq fun k22 hk22 => ?_
    refine Run.region ?_
    show Sq _ _ _ [0, 1, 2] _ _ _ _
    obtain rfl : i = xs.length := by omega
    refine J.qa (by repeat constructor) (fun hG => ?_)
    have hGl := hG.len
    refine Sq.quiet (i := 0) rfl (Want.none rfl) rfl (ltN rfl) (QP.move rfl rfl).read ?_
    refine Sq.eff (i := 1) rfl (Want.none rfl) rfl (ltN rfl) (EF.call rfl ce13 rfl (.cons (by repeat constructor) Takes.nil) (fun F' hle hr => lenA F' (L := L))) ?_
    rintro _ _ ⟨_, ⟨rfl, rfl⟩, rfl⟩
    refine J.app ?_
    refine Sq.quiet (i := 2) rfl (Want.none rfl) rfl (ltN rfl) (QP.assign rfl rfl).read ?_
    refine Sq.nil ?_
    refine hk22 _ _ ?_
    refine Run.seq fun k23 hk23 => ?_
    refine Run.region ?_
    show Sq _ _ _ [0, 1, 2, 3, 4, 5] _ _ _ _
    obtain ⟨gn, hgc, hg1, hgl, hg0, hg2⟩ := cancel2 s hG.nodup
    refine Sq.quiet (i := 0) rfl (Want.none rfl) rfl (ltN rfl) (QP.move rfl rfl).read ?_
    refine Sq.quiet (i := 1) rfl (Want.none rfl) rfl (ltN rfl) (QP.move rfl rfl).read ?_
    refine Sq.quiet (i := 2) rfl (Want.none rfl) rfl (ltN rfl) (QP.move rfl rfl).read ?_
    refine Sq.eff (i := 3) rfl (Want.none rfl) rfl (ltN rfl) (EF.buildSliceS rfl Try.underlying33 z9 zero9 rfl (by decide) rfl rfl rfl rfl) ?_
    rintro _ _ ⟨b77, rfl, rfl⟩
    refine Sq.eff (i := 4) rfl (Want.none rfl) rfl (ltN rfl) (EF.call rfl ce14 rfl (.cons (by repeat constructor) Takes.nil) (fun F' hle hr => cancelA F' (L := L) (ss := [s, s]) (by simp) (argSl_all (enc := fun s => [Value.string s]) (fun _ => rfl) (hr b77 _ (by repeat constructor))) (fun q hq => by simp only [List.mem_cons, List.not_mem_nil, or_false, or_self] at hq; subst hq; exact hss))) ?_
    rintro _ _ ⟨_, ⟨rfl, rfl⟩, rfl⟩
    refine J.app ?_
    rw [hgc]
    refine Sq.quiet (i := 5) rfl (Want.none rfl) rfl (ltN rfl) (QP.assign rfl rfl).read ?_
    refine Sq.nil ?_
    refine hk23 _ _ ?_
    refine Run.seq fun k24 hk24 => ?_
    refine Run.region ?_
    show Sq _ _ _ [0, 1, 2, 3, 4, 5, 6, 7] _ _ _ _
    refine Sq.quiet (i := 0) rfl (Want.none rfl) rfl (ltN rfl) (QP.move rfl rfl).read ?_
    refine Sq.quiet (i := 1) rfl (Want.none rfl) rfl (ltN rfl) (QP.move rfl rfl).read ?_
    refine Sq.eff (i := 2) rfl (Want.none rfl) rfl (ltN rfl) (EF.call rfl ce15 rfl (.cons (by repeat constructor) Takes.nil) (fun F' hle hr => atA F' (L := (delD L s)) (⟨s, hss⟩ : Str))) ?_
    rintro _ _ ⟨_, ⟨rfl, rfl⟩, rfl⟩
    refine J.app ?_
    rw [show atD (delD L s) (⟨s, hss⟩ : Str).val = none from at_none (has_del L s)]
    refine Sq.quiet (i := 3) rfl (Want.none rfl) rfl (ltN rfl) (QP.move rfl rfl).read ?_
    refine Sq.quiet (i := 4) rfl (Want.none rfl) rfl (ltN rfl) (QP.extract rfl rfl rfl).read ?_
    refine Sq.quiet (i := 5) rfl (Want.none rfl) rfl (ltN rfl) (QP.extract rfl rfl rfl).read ?_
    refine Sq.quiet (i := 6) rfl (Want.none rfl) rfl (ltN rfl) (QP.assign rfl rfl).read ?_
    refine Sq.quiet (i := 7) rfl (Want.none rfl) rfl (ltN rfl) (QP.assign rfl rfl).read ?_
    refine Sq.nil ?_
    refine hk24 _ _ ?_
    refine Run.seq fun k25 hk25 => ?_
    refine Run.seq fun k26 hk26 => ?_
    refine Run.region ?_
    show Sq _ _ _ [0, 1, 2, 3, 4, 5, 6, 7, 8, 9, 10, 11, 12, 13, 14] _ _ _ _
    refine Sq.quiet (i := 0) rfl (Want.none rfl) rfl (ltN rfl) (QP.move rfl rfl).read ?_
    refine Sq.quiet (i := 1) rfl (Want.none rfl) rfl (ltN rfl) (QP.move rfl rfl).read ?_
    refine Sq.quiet (i := 2) rfl (Want.yes rfl rfl rfl rfl) rfl (ltN rfl) (QP.move rfl rfl).read ?_
    refine Sq.quiet (i := 3) rfl (Want.yes rfl rfl rfl rfl) rfl (ltN rfl) (QP.eql rfl rfl rfl).read ?_
    refine Sq.quiet (i := 4) rfl (Want.yes rfl rfl rfl rfl) rfl (ltN rfl) (QP.move rfl rfl).read ?_
    refine Sq.quiet (i := 5) rfl (Want.yes rfl rfl rfl rfl) rfl (ltN rfl) (QP.neqB rfl rfl rfl Try.underlying4).read ?_
    refine J.boolF (by rw [hbt]; simp [hg1]) ?_
    refine Sq.quiet (i := 6) rfl (Want.none rfl) rfl (ltN rfl) (QP.pick_f rfl rfl rfl).read ?_
    refine Sq.quiet (i := 7) rfl (Want.none rfl) rfl (ltN rfl) (QP.move rfl rfl).read ?_
    refine Sq.quiet (i := 8) rfl (Want.yes rfl rfl rfl rfl) rfl (ltN rfl) (QP.move rfl rfl).read ?_
    refine Sq.eff (i := 9) rfl (Want.yes rfl rfl rfl rfl) rfl (ltN rfl) (EF.call rfl ce13 rfl (.cons (by repeat constructor) Takes.nil) (fun F' hle hr => lenA F' (L := (delD L s)))) ?_
    rintro _ _ ⟨_, ⟨rfl, rfl⟩, rfl⟩
    refine J.app ?_
    refine Sq.quiet (i := 10) rfl (Want.yes rfl rfl rfl rfl) rfl (ltN rfl) (QP.move rfl rfl).read ?_
    refine Sq.quiet (i := 11) rfl (Want.yes rfl rfl rfl rfl) rfl (ltN rfl) (QP.move rfl rfl).read ?_
    refine Sq.quiet (i := 12) rfl (Want.yes rfl rfl rfl rfl) rfl (ltN rfl) (QP.sub64 rfl rfl rfl (by first | omega | (simp <;> omega)) (by first | omega | (simp <;> omega))).read ?_
    refine Sq.quiet (i := 13) rfl (Want.yes rfl rfl rfl rfl) rfl (ltN rfl) (QP.neq rfl rfl rfl).read ?_
    refine J.decF (fun h9 => h9 (by omega)) ?_
    refine Sq.quiet (i := 14) rfl (Want.none rfl) rfl (ltN rfl) (QP.pick_f rfl rfl rfl).read ?_
    refine Sq.nil ?_
    refine hk26 _ _ ?_
    refine Run.cond_f rfl ?_
    refine Run.skip ?_
    refine hk25 _ _ ?_
    refine Run.seq fun k27 hk27 => ?_
    refine Run.seq fun k28 hk28 => ?_
    refine Run.region ?_
    show Sq _ _ _ [0] _ _ _ _
    refine Sq.quiet (i := 0) rfl (Want.none rfl) rfl (ltN rfl) (QP.assign rfl rfl).read ?_
    refine Sq.nil ?_
    refine hk28 _ _ ?_
    refine Run.block ?_
    refine Run.loop1 (fun (i : Nat) => i ≤ L.length) (fun i => .cons 0 (.slice a xs.length c) (.cons 1 (.string s) (.cons 5 (fp tb) (.cons 6 (va) (.cons 9 (.int .i64 L.length) (.cons 10 (.int .i64 gn) (.cons 13 (.int .i64 i) (.nil)))))))) (fun i => [QA tb ((delD L s).drop i), slA 9 1 (fun s : ByteArray => [Value.string s]) va ((xs.take xs.length).map (·.name))]) (fun i => L.length - i) (0) (Nat.zero_le _) ?_ ?_
    ·exact fun _ j => J.envJ (J.keep (.cons (by repeat constructor) (.cons (by repeat constructor) Takes.nil)) j) ⟨rfl, rfl, rfl, rfl, rfl, rfl, rfl, trivial⟩
    rintro i hile2 kl29 hl29
    refine Run.seq fun k30 hk30 => ?_
    refine Run.seq fun k31 hk31 => ?_
    refine Run.region ?_
    show Sq _ _ _ [0, 1, 2] _ _ _ _
    refine Sq.quiet (i := 0) rfl (Want.none rfl) rfl (ltN rfl) (QP.move rfl rfl).read ?_
    refine Sq.quiet (i := 1) rfl (Want.none rfl) rfl (ltN rfl) (QP.move rfl rfl).read ?_
    refine Sq.quiet (i := 2) rfl (Want.none rfl) rfl (ltN rfl) (QP.lss rfl rfl rfl).read ?_
    refine J.caseD (fun c102 => ?_) (fun c102 => ?_)
    ·skip
     refine Sq.nil ?_
     refine hk31 _ _ ?_
     refine Run.cond_t rfl ?_
     refine Run.skip ?_
     refine hk30 _ _ ?_
     refine Run.seq fun k32 hk32 => ?_
     refine Run.block ?_
     refine Run.seq fun k33 hk33 => ?_
     refine Run.region ?_
     show Sq _ _ _ [0, 1, 2, 3, 4, 5, 6, 7] _ _ _ _
     obtain ⟨y, hyd⟩ : ∃ y, y = ((delD L s)[i]?).getD Due.zero := ⟨_, rfl⟩
     have hlt : ((delD L s)[i]?).isSome = true ↔ i < (delD L s).length := by rw [Option.isSome_iff_exists]; exact ⟨fun ⟨d, hd⟩ => (List.getElem?_eq_some_iff.1 hd).1, fun h => ⟨_, List.getElem?_eq_getElem h⟩⟩
     refine Sq.quiet (i := 0) rfl (Want.none rfl) rfl (ltN rfl) (QP.move rfl rfl).read ?_
     refine Sq.eff (i := 1) rfl (Want.none rfl) rfl (ltN rfl) (EF.call rfl ce16 rfl (.cons (by repeat constructor) Takes.nil) (fun F' hle hr => popA F' (L := (delD L s).drop i) 9223372036854775807)) ?_
     rintro _ _ ⟨_, ⟨rfl, rfl⟩, rfl⟩
     refine J.app ?_
     rw [pop_drop (hRL.del s) hyd]
     refine Sq.quiet (i := 2) rfl (Want.none rfl) rfl (ltN rfl) (QP.move rfl rfl).read ?_
     refine Sq.quiet (i := 3) rfl (Want.none rfl) rfl (ltN rfl) (QP.extract rfl rfl rfl).read ?_
     refine Sq.quiet (i := 4) rfl (Want.none rfl) rfl (ltN rfl) (QP.extract rfl rfl rfl).read ?_
     refine J.caseB (fun c109 => ?_) (fun c109 => ?_)
     ·skip
      refine Sq.eff (i := 5) rfl (Want.none rfl) rfl (ltN rfl) (EF.allocA (l := Due.enc Due.zero) rfl zero40) ?_
      rintro _ _ ⟨b14, rfl, rfl⟩
      refine Sq.act (i := 6) rfl (Want.none rfl) rfl (EF.storeA rfl rfl rfl z40 (SetL.all (Due.enc_len _) (Due.enc_len _)) (Due.enc_cell _)) ?_
      rintro _ _ rfl
      refine Sq.quiet (i := 7) rfl (Want.none rfl) rfl (ltN rfl) (QP.assign rfl rfl).read ?_
      refine Sq.nil ?_
      refine hk33 _ _ ?_
      refine Run.seq fun k34 hk34 => ?_
      refine Run.seq fun k35 hk35 => ?_
      refine Run.region ?_
      show Sq _ _ _ [0, 1, 2, 3, 4, 5, 6, 7, 8, 9, 10, 11, 12, 13, 14, 15] _ _ _ _
      refine Sq.quiet (i := 0) rfl (Want.none rfl) rfl (ltN rfl) (QP.move rfl rfl).read ?_
      refine Sq.quiet (i := 1) rfl (Want.none rfl) rfl (ltN rfl) (QP.move rfl rfl).read ?_
      refine Sq.quiet (i := 2) rfl (Want.none rfl) rfl (ltN rfl) (QP.move rfl rfl).read ?_
      refine Sq.quiet (i := 3) rfl (Want.none rfl) rfl (ltN rfl) (QP.move rfl rfl).read ?_
      refine Sq.quiet (i := 4) rfl (Want.none rfl) rfl (ltN rfl) (QP.sub64 rfl rfl rfl (by first | omega | (simp <;> omega)) (by first | omega | (simp <;> omega))).read ?_
      refine Sq.quiet (i := 5) rfl (Want.none rfl) rfl (ltN rfl) (QP.lss rfl rfl rfl).read ?_
      refine Sq.quiet (i := 6) rfl (Want.none rfl) rfl (ltN rfl) (QP.neqB rfl rfl rfl Try.underlying4).read ?_
      refine J.boolF (by first | (rw [show decide ((i : Int) < (L.length : Int) - gn) = true from decide_eq_true (by have := hlt.1 c109; omega)]; rfl) | (rw [show decide ((i : Int) < (L.length : Int) - gn) = false from decide_eq_false (fun h9 => by have h8 := hlt.2 (by omega); rw [show ((delD L s)[i]?).isSome = false from c109] at h8; cases h8)]; rfl)) ?_
      refine Sq.quiet (i := 7) rfl (Want.none rfl) rfl (ltN rfl) (QP.move rfl rfl).read ?_
      refine Sq.quiet (i := 8) rfl (Want.yes rfl rfl rfl rfl) rfl (ltN rfl) (QP.move rfl rfl).read ?_
      refine Sq.quiet (i := 9) rfl (Want.yes rfl rfl rfl rfl) rfl (ltN rfl) (QP.move rfl rfl).read ?_
      refine Sq.quiet (i := 10) rfl (Want.yes rfl rfl rfl rfl) rfl (ltN rfl) (QP.fieldAddr rfl rfl f40_0).read ?_
      refine Sq.quiet (i := 11) rfl (Want.yes rfl rfl rfl rfl) rfl (ltN rfl) (QR.load1 rfl rfl g9 (Due.sub_name _)) ?_
      refine Sq.quiet (i := 12) rfl (Want.yes rfl rfl rfl rfl) rfl (ltN rfl) (QP.move rfl rfl).read ?_
      refine Sq.quiet (i := 13) rfl (Want.yes rfl rfl rfl rfl) rfl (ltN rfl) (QP.eqS rfl rfl rfl).read ?_
      refine J.decF (fun h9 => not_y hyd c109 (str_eq.1 h9)) ?_
      refine Sq.quiet (i := 14) rfl (Want.yes rfl rfl rfl rfl) rfl (ltN rfl) (QP.pick_t rfl rfl rfl).read ?_
      refine Sq.quiet (i := 15) rfl (Want.none rfl) rfl (ltN rfl) (QP.pick_f rfl rfl rfl).read ?_
      refine Sq.nil ?_
      refine hk35 _ _ ?_
      refine Run.cond_f rfl ?_
      refine Run.skip ?_
      refine hk34 _ _ ?_
      refine Run.seq fun k36 hk36 => ?_
      refine Run.region ?_
      show Sq _ _ _ [0] _ _ _ _
      refine Sq.quiet (i := 0) rfl (Want.none rfl) rfl (ltN rfl) (QP.move rfl rfl).read ?_
      refine Sq.nil ?_
      refine hk36 _ _ ?_
      refine Run.cond_t rfl ?_
      refine Run.seq fun k37 hk37 => ?_
      refine Run.region ?_
      show Sq _ _ _ [0, 1, 2, 3] _ _ _ _
      have hyg := get_y hyd c109
      have hys : y.name.size ≤ maxLen := hG.size y (List.mem_filter.1 (List.mem_of_getElem? hyg)).1
      refine Sq.quiet (i := 0) rfl (Want.none rfl) rfl (ltN rfl) (QP.move rfl rfl).read ?_
      refine Sq.quiet (i := 1) rfl (Want.none rfl) rfl (ltN rfl) (QP.fieldAddr rfl rfl f40_0).read ?_
      refine Sq.quiet (i := 2) rfl (Want.none rfl) rfl (ltN rfl) (QR.load1 rfl rfl g9 (Due.sub_name _)) ?_
      refine Sq.eff (i := 3) rfl (Want.none rfl) rfl (ltN rfl) (EF.call rfl ce11 rfl (.cons (by repeat constructor) Takes.nil) (fun F' hle hr => setA F' (L := (delD L s).drop (i + 1)) (⟨y.name, hys⟩ : Str) (-9223372036854775808))) ?_
      rintro _ _ ⟨_, ⟨rfl, rfl⟩, rfl⟩
      refine J.app ?_
      refine Sq.nil ?_
      refine hk37 _ _ ?_
      refine Run.region ?_
      show Sq _ _ _ [0, 1, 2, 3, 4] _ _ _ _
      refine Sq.quiet (i := 0) rfl (Want.none rfl) rfl (ltN rfl) (QP.move rfl rfl).read ?_
      refine Sq.quiet (i := 1) rfl (Want.none rfl) rfl (ltN rfl) (QP.fieldAddr rfl rfl f40_0).read ?_
      refine Sq.quiet (i := 2) rfl (Want.none rfl) rfl (ltN rfl) (QR.load1 rfl rfl g9 (Due.sub_name _)) ?_
      refine Sq.eff (i := 3) rfl (Want.none rfl) rfl (ltN rfl) (EF.buildSliceS rfl Try.underlying33 z9 zero9 rfl (by decide) rfl rfl rfl rfl) ?_
      rintro _ _ ⟨b134, rfl, rfl⟩
      refine Sq.eff (i := 4) rfl (Want.none rfl) rfl (ltN rfl) (EF.call rfl ce14 rfl (.cons (by repeat constructor) Takes.nil) (fun F' hle hr => cancelA F' (L := (setR ((delD L s).drop (i + 1)) y.name (-9223372036854775808)).2) (ss := [y.name]) (by simp) (argSl_all (enc := fun s => [Value.string s]) (fun _ => rfl) (hr b134 _ (by repeat constructor))) (fun q hq => by simp only [List.mem_singleton] at hq; subst hq; exact hys))) ?_
      rintro _ _ ⟨_, ⟨rfl, rfl⟩, rfl⟩
      refine J.app ?_
      rw [put_back (fresh_y (del_nodup hG.nodup) hyg)]
      refine Sq.nil ?_
      refine hk32 _ _ ?_
      refine Run.region ?_
      show Sq _ _ _ [0, 1, 2] _ _ _ _
      refine Sq.quiet (i := 0) rfl (Want.none rfl) rfl (ltN rfl) (QP.move rfl rfl).read ?_
      refine Sq.quiet (i := 1) rfl (Want.none rfl) rfl (ltN rfl) (QP.add64 rfl rfl rfl (by first | omega | (simp <;> omega)) (by first | omega | (simp <;> omega))).read ?_
      refine Sq.quiet (i := 2) rfl (Want.none rfl) rfl (ltN rfl) (QP.assign rfl rfl).read ?_
      refine Sq.nil ?_
      exact J.envJ (J.keep (.cons (by repeat constructor) (.cons (by repeat constructor) Takes.nil)) (hl29 (i + 1) (by omega) (by omega))) ⟨rfl, rfl, rfl, rfl, rfl, rfl, rfl, trivial⟩
     ·skip
      refine Sq.eff (i := 5) rfl (Want.none rfl) rfl (ltN rfl) (EF.allocA (l := Due.enc Due.zero) rfl zero40) ?_
      rintro _ _ ⟨b14, rfl, rfl⟩
      refine Sq.act (i := 6) rfl (Want.none rfl) rfl (EF.storeA rfl rfl rfl z40 (SetL.all (Due.enc_len _) (Due.enc_len _)) (Due.enc_cell _)) ?_
      rintro _ _ rfl
      refine Sq.quiet (i := 7) rfl (Want.none rfl) rfl (ltN rfl) (QP.assign rfl rfl).read ?_
      refine Sq.nil ?_
      refine hk33 _ _ ?_
      refine Run.seq fun k38 hk38 => ?_
      refine Run.seq fun k39 hk39 => ?_
      refine Run.region ?_
      show Sq _ _ _ [0, 1, 2, 3, 4, 5, 6, 7, 8, 9, 10, 11, 12, 13, 14, 15] _ _ _ _
      refine Sq.quiet (i := 0) rfl (Want.none rfl) rfl (ltN rfl) (QP.move rfl rfl).read ?_
      refine Sq.quiet (i := 1) rfl (Want.none rfl) rfl (ltN rfl) (QP.move rfl rfl).read ?_
      refine Sq.quiet (i := 2) rfl (Want.none rfl) rfl (ltN rfl) (QP.move rfl rfl).read ?_
      refine Sq.quiet (i := 3) rfl (Want.none rfl) rfl (ltN rfl) (QP.move rfl rfl).read ?_
      refine Sq.quiet (i := 4) rfl (Want.none rfl) rfl (ltN rfl) (QP.sub64 rfl rfl rfl (by first | omega | (simp <;> omega)) (by first | omega | (simp <;> omega))).read ?_
      refine Sq.quiet (i := 5) rfl (Want.none rfl) rfl (ltN rfl) (QP.lss rfl rfl rfl).read ?_
      refine Sq.quiet (i := 6) rfl (Want.none rfl) rfl (ltN rfl) (QP.neqB rfl rfl rfl Try.underlying4).read ?_
      refine J.boolF (by first | (rw [show decide ((i : Int) < (L.length : Int) - gn) = true from decide_eq_true (by have := hlt.1 c109; omega)]; rfl) | (rw [show decide ((i : Int) < (L.length : Int) - gn) = false from decide_eq_false (fun h9 => by have h8 := hlt.2 (by omega); rw [show ((delD L s)[i]?).isSome = false from c109] at h8; cases h8)]; rfl)) ?_
      refine Sq.quiet (i := 7) rfl (Want.none rfl) rfl (ltN rfl) (QP.move rfl rfl).read ?_
      refine Sq.quiet (i := 8) rfl (Want.yes rfl rfl rfl rfl) rfl (ltN rfl) (QP.move rfl rfl).read ?_
      refine Sq.quiet (i := 9) rfl (Want.yes rfl rfl rfl rfl) rfl (ltN rfl) (QP.move rfl rfl).read ?_
      refine Sq.skip (i := 10) rfl (Want.no rfl rfl rfl rfl) rfl (ltN rfl) ?_
      refine Sq.skip (i := 11) rfl (Want.no rfl rfl rfl rfl) rfl (ltN rfl) ?_
      refine Sq.skip (i := 12) rfl (Want.no rfl rfl rfl rfl) rfl (ltN rfl) ?_
      refine Sq.skip (i := 13) rfl (Want.no rfl rfl rfl rfl) rfl (ltN rfl) ?_
      refine Sq.quiet (i := 14) rfl (Want.yes rfl rfl rfl rfl) rfl (ltN rfl) (QP.pick_f rfl rfl rfl).read ?_
      refine Sq.quiet (i := 15) rfl (Want.none rfl) rfl (ltN rfl) (QP.pick_f rfl rfl rfl).read ?_
      refine Sq.nil ?_
      refine hk39 _ _ ?_
      refine Run.cond_f rfl ?_
      refine Run.skip ?_
      refine hk38 _ _ ?_
      refine Run.seq fun k40 hk40 => ?_
      refine Run.region ?_
      show Sq _ _ _ [0] _ _ _ _
      refine Sq.quiet (i := 0) rfl (Want.none rfl) rfl (ltN rfl) (QP.move rfl rfl).read ?_
      refine Sq.nil ?_
      refine hk40 _ _ ?_
      refine Run.cond_f rfl ?_
      refine Run.skip ?_
      refine hk32 _ _ ?_
      refine Run.region ?_
      show Sq _ _ _ [0, 1, 2] _ _ _ _
      refine Sq.quiet (i := 0) rfl (Want.none rfl) rfl (ltN rfl) (QP.move rfl rfl).read ?_
      refine Sq.quiet (i := 1) rfl (Want.none rfl) rfl (ltN rfl) (QP.add64 rfl rfl rfl (by first | omega | (simp <;> omega)) (by first | omega | (simp <;> omega))).read ?_
      refine Sq.quiet (i := 2) rfl (Want.none rfl) rfl (ltN rfl) (QP.assign rfl rfl).read ?_
      refine Sq.nil ?_
      exact J.envJ (J.keep (.cons (by repeat constructor) (.cons (by repeat constructor) Takes.nil)) (hl29 (i + 1) (by omega) (by omega))) ⟨rfl, rfl, rfl, rfl, rfl, rfl, rfl, trivial⟩
    ·skip
     refine Sq.nil ?_
     refine hk31 _ _ ?_
     refine Run.cond_f rfl ?_
     refine Run.exit rfl ?_
     refine hk27 _ _ ?_
     refine Run.seq fun k41 hk41 => ?_
     refine Run.region ?_
     show Sq _ _ _ [0, 1, 2, 3, 4, 5, 6, 7, 8, 9, 10, 11, 12] _ _ _ _
     refine Sq.slCase (v := va) (xs := ((xs.take xs.length).map (·.name))) (by repeat constructor) (fun ava cva hvva hhva => ?_)
     subst hvva
     have hNl : ((xs.take xs.length).map (·.name)).length ≤ 1000000 := by simp only [List.length_map, List.length_take]; omega
     generalize (xs.take xs.length).map (·.name) = NS at hNs hNl ⊢
     rw [show (delD L s).drop i = [] from List.drop_eq_nil_of_le (by have := del_len L s; omega)]
     refine Sq.quiet (i := 0) rfl (Want.none rfl) rfl (ltN rfl) (QP.move rfl rfl).read ?_
     refine Sq.quiet (i := 1) rfl (Want.none rfl) rfl (ltN rfl) (QP.move rfl rfl).read ?_
     refine Sq.eff (i := 2) rfl (Want.none rfl) rfl (ltN rfl) (EF.call rfl ce14 rfl (.cons (by repeat constructor) (.cons (by repeat constructor) Takes.nil)) (fun F' hle hr => cancelN F' (L := []) (an := ava) (cn := cva) (ns := NS) hNl hNs)) ?_
     rintro _ _ ⟨_, ⟨rfl, rfl⟩, rfl⟩
     refine J.app ?_
     rw [cancel_E]
     refine Sq.quiet (i := 3) rfl (Want.none rfl) rfl (ltN rfl) (QP.eql rfl rfl rfl).read ?_
     refine Sq.quiet (i := 4) rfl (Want.none rfl) rfl (ltN rfl) (QP.move rfl rfl).read ?_
     refine Sq.quiet (i := 5) rfl (Want.yes rfl rfl rfl rfl) rfl (ltN rfl) (QP.move rfl rfl).read ?_
     refine Sq.eff (i := 6) rfl (Want.yes rfl rfl rfl rfl) rfl (ltN rfl) (EF.call rfl ce13 rfl (.cons (by repeat constructor) Takes.nil) (fun F' hle hr => lenA F' (L := ([] : List Due)))) ?_
     rintro _ _ ⟨_, ⟨rfl, rfl⟩, rfl⟩
     refine J.app ?_
     refine Sq.quiet (i := 7) rfl (Want.yes rfl rfl rfl rfl) rfl (ltN rfl) (QP.eql rfl rfl rfl).read ?_
     refine J.decT (rfl) ?_
     refine Sq.quiet (i := 8) rfl (Want.none rfl) rfl (ltN rfl) (QP.pick_t rfl rfl rfl).read ?_
     refine Sq.quiet (i := 9) rfl (Want.none rfl) rfl (ltN rfl) (QP.move rfl rfl).read ?_
     refine Sq.eff (i := 10) rfl (Want.yes rfl rfl rfl rfl) rfl (ltN rfl) (EF.call rfl ce9 rfl Takes.nil (fun F' hle hr => live_spec F')) ?_
     rintro _ _ ⟨_, ⟨rfl, rfl⟩, rfl⟩
     refine J.app ?_
     refine Sq.quiet (i := 11) rfl (Want.none rfl) rfl (ltN rfl) (QP.pick_t rfl rfl rfl).read ?_
     refine Sq.quiet (i := 12) rfl (Want.none rfl) rfl (ltN rfl) (QP.assign rfl rfl).read ?_
     refine Sq.nil ?_
     refine hk41 _ _ ?_
     refine Run.ret ?_
     exact J.ends (res_tmp rfl rfl) Takes.nil ⟨rfl, rfl⟩
end Slb
