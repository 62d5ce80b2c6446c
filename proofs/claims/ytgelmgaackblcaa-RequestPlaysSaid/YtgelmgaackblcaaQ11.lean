/- Q11: a part of the proof that a law of this package holds for every input; no condition. -/
import Derived.Test.YtgelmgaackblcaaQ7
import Derived.Test.YtgelmgaackblcaaB17
namespace Slb
open Go Go.Proofs
set_option maxRecDepth 20000
def okGap (x : Law18Act) : Prop := 0 ≤ x.gap ∧ x.gap ≤ 1073741824

theorem right_spec (F : Fr) {a : Option Addr} {xs : List Law18Act} {c : Nat} (hlen : xs.length ≤ 9223372036854775807) (ha : ArgSl F a 46 Law18Act.enc xs)  : Spec Try.prog 8 #[.slice a xs.length c] [] F (fun v S => S = [] ∧ ∃ r, v = .bool r ∧ (r = true → xs.length ≤ 150 ∧ ∀ x ∈ xs, okGap x)) := by
  refine Spec.intro (N := 31) (args := [.slice a xs.length c]) Try.func8 rfl rfl (by simp) ?_
  refine Run.seq fun k1 hk1 => ?_
  refine Run.region ?_
  show Sq _ _ _ [0] _ _ _ _
  refine Sq.quiet (i := 0) rfl (Want.none rfl) rfl (ltN rfl) (QP.assign rfl rfl).read ?_
  refine Sq.nil ?_
  refine hk1 _ _ ?_
  refine Run.seq fun k2 hk2 => ?_
  refine Run.seq fun k3 hk3 => ?_
  refine Run.region ?_
  show Sq _ _ _ [0] _ _ _ _
  refine Sq.quiet (i := 0) rfl (Want.none rfl) rfl (ltN rfl) (QP.assign rfl rfl).read ?_
  refine Sq.nil ?_
  refine hk3 _ _ ?_
  refine Run.block ?_
  refine Run.loop1 (fun (i : Nat) => i ≤ xs.length ∧ i ≤ 151 ∧ ∀ x ∈ xs.take i, okGap x) (fun i => .cons 0 (.slice a xs.length c) (.cons 3 (.int .i64 i) (.nil))) (fun i => []) (fun i => xs.length - i) (0) (⟨Nat.zero_le _, Nat.zero_le _, fun x hx => by simp at hx⟩) ?_ ?_
  · exact fun _ j => J.envJ (J.keep Takes.nil j) ⟨rfl, rfl, trivial⟩
  rintro i ⟨hile, hi2, hok⟩ kl4 hl4
  refine Run.seq fun k5 hk5 => ?_
  refine Run.seq fun k6 hk6 => ?_
  refine Run.region ?_
  show Sq _ _ _ [0, 1, 2, 3, 4, 5, 6, 7] _ _ _ _
  refine Sq.quiet (i := 0) rfl (Want.none rfl) rfl (ltN rfl) (QP.move rfl rfl).read ?_
  refine Sq.quiet (i := 1) rfl (Want.none rfl) rfl (ltN rfl) (QP.move rfl rfl).read ?_
  refine Sq.quiet (i := 2) rfl (Want.none rfl) rfl (ltN rfl) (QP.len rfl rfl rfl Try.underlying22).read ?_
  refine Sq.quiet (i := 3) rfl (Want.none rfl) rfl (ltN rfl) (QP.lss rfl rfl rfl).read ?_
  refine J.caseD (fun c7 => ?_) (fun c7 => ?_)
  · skip
    refine Sq.quiet (i := 4) rfl (Want.none rfl) rfl (ltN rfl) (QP.move rfl rfl).read ?_
    refine Sq.quiet (i := 5) rfl (Want.yes rfl rfl rfl rfl) rfl (ltN rfl) (QP.move rfl rfl).read ?_
    refine Sq.quiet (i := 6) rfl (Want.yes rfl rfl rfl rfl) rfl (ltN rfl) (QP.leq rfl rfl rfl).read ?_
    refine J.caseD (fun c10 => ?_) (fun c10 => ?_)
    · skip
      refine Sq.quiet (i := 7) rfl (Want.none rfl) rfl (ltN rfl) (QP.pick_t rfl rfl rfl).read ?_
      refine Sq.nil ?_
      refine hk6 _ _ ?_
      refine Run.cond_t rfl ?_
      refine Run.skip ?_
      refine hk5 _ _ ?_
      refine Run.seq fun k7 hk7 => ?_
      refine Run.block ?_
      refine Run.seq fun k8 hk8 => ?_
      refine Run.region ?_
      show Sq _ _ _ [0, 1, 2, 3, 4, 5, 6, 7, 8, 9, 10, 11, 12, 13] _ _ _ _
      have hlt : i < xs.length := by omega
      obtain ⟨x, hi⟩ : ∃ x, xs[i]? = some x := ⟨_, List.getElem?_eq_getElem hlt⟩
      obtain ⟨b0, o0, rfl, hs0⟩ := ha.get (by omega)
      refine Sq.quiet (i := 0) rfl (Want.none rfl) rfl (ltN rfl) (QP.move rfl rfl).read ?_
      refine Sq.quiet (i := 1) rfl (Want.none rfl) rfl (ltN rfl) (QP.move rfl rfl).read ?_
      refine Sq.quiet (i := 2) rfl (Want.none rfl) rfl (ltN rfl) (QP.indexAddr rfl rfl rfl Try.underlying22 z47 (by first | omega | (simp only [List.length_map, List.length_append, List.length_cons, List.length_nil, List.length_take, List.length_drop]; omega)) (by first | omega | (simp only [List.length_map, List.length_append, List.length_cons, List.length_nil, List.length_take, List.length_drop]; omega))).read ?_
      refine Sq.quiet (i := 3) rfl (Want.none rfl) rfl (ltN rfl) (QP.fieldAddr rfl rfl f47_1).read ?_
      refine Sq.quiet (i := 4) rfl (Want.none rfl) rfl (ltN rfl) (QR.loadSlF1 rfl rfl g3 Law18Act.enc_len (hs0 _) hi (Law18Act.sub_gap _)) ?_
      refine Sq.quiet (i := 5) rfl (Want.none rfl) rfl (ltN rfl) (QP.lss rfl rfl rfl).read ?_
      refine J.caseD (fun c19 => ?_) (fun c19 => ?_)
      · skip
        refine Sq.quiet (i := 6) rfl (Want.none rfl) rfl (ltN rfl) (QP.move rfl rfl).read ?_
        refine Sq.skip (i := 7) rfl (Want.no rfl rfl rfl rfl) rfl (ltN rfl) ?_
        refine Sq.skip (i := 8) rfl (Want.no rfl rfl rfl rfl) rfl (ltN rfl) ?_
        refine Sq.skip (i := 9) rfl (Want.no rfl rfl rfl rfl) rfl (ltN rfl) ?_
        refine Sq.skip (i := 10) rfl (Want.no rfl rfl rfl rfl) rfl (ltN rfl) ?_
        refine Sq.skip (i := 11) rfl (Want.no rfl rfl rfl rfl) rfl (ltN rfl) ?_
        refine Sq.skip (i := 12) rfl (Want.no rfl rfl rfl rfl) rfl (ltN rfl) ?_
        refine Sq.quiet (i := 13) rfl (Want.none rfl) rfl (ltN rfl) (QP.pick_t rfl rfl rfl).read ?_
        refine Sq.nil ?_
        refine hk8 _ _ ?_
        refine Run.cond_t rfl ?_
        refine Run.seq fun k9 hk9 => ?_
        refine Run.region ?_
        show Sq _ _ _ [0] _ _ _ _
        refine Sq.quiet (i := 0) rfl (Want.none rfl) rfl (ltN rfl) (QP.assign rfl rfl).read ?_
        refine Sq.nil ?_
        refine hk9 _ _ ?_
        refine Run.ret ?_
        exact J.ends (res_tmp rfl rfl) Takes.nil ⟨rfl, false, rfl, fun h => by cases h⟩
      · skip
        refine Sq.quiet (i := 6) rfl (Want.none rfl) rfl (ltN rfl) (QP.move rfl rfl).read ?_
        refine Sq.quiet (i := 7) rfl (Want.yes rfl rfl rfl rfl) rfl (ltN rfl) (QP.move rfl rfl).read ?_
        refine Sq.quiet (i := 8) rfl (Want.yes rfl rfl rfl rfl) rfl (ltN rfl) (QP.move rfl rfl).read ?_
        refine Sq.quiet (i := 9) rfl (Want.yes rfl rfl rfl rfl) rfl (ltN rfl) (QP.indexAddr rfl rfl rfl Try.underlying22 z47 (by first | omega | (simp only [List.length_map, List.length_append, List.length_cons, List.length_nil, List.length_take, List.length_drop]; omega)) (by first | omega | (simp only [List.length_map, List.length_append, List.length_cons, List.length_nil, List.length_take, List.length_drop]; omega))).read ?_
        refine Sq.quiet (i := 10) rfl (Want.yes rfl rfl rfl rfl) rfl (ltN rfl) (QP.fieldAddr rfl rfl f47_1).read ?_
        refine Sq.quiet (i := 11) rfl (Want.yes rfl rfl rfl rfl) rfl (ltN rfl) (QR.loadSlF1 rfl rfl g3 Law18Act.enc_len (hs0 _) hi (Law18Act.sub_gap _)) ?_
        refine Sq.quiet (i := 12) rfl (Want.yes rfl rfl rfl rfl) rfl (ltN rfl) (QP.gtr rfl rfl rfl).read ?_
        refine J.caseD (fun c26 => ?_) (fun c26 => ?_)
        · skip
          refine Sq.quiet (i := 13) rfl (Want.none rfl) rfl (ltN rfl) (QP.pick_f rfl rfl rfl).read ?_
          refine Sq.nil ?_
          refine hk8 _ _ ?_
          refine Run.cond_t rfl ?_
          refine Run.seq fun k10 hk10 => ?_
          refine Run.region ?_
          show Sq _ _ _ [0] _ _ _ _
          refine Sq.quiet (i := 0) rfl (Want.none rfl) rfl (ltN rfl) (QP.assign rfl rfl).read ?_
          refine Sq.nil ?_
          refine hk10 _ _ ?_
          refine Run.ret ?_
          exact J.ends (res_tmp rfl rfl) Takes.nil ⟨rfl, false, rfl, fun h => by cases h⟩
        · skip
          refine Sq.quiet (i := 13) rfl (Want.none rfl) rfl (ltN rfl) (QP.pick_f rfl rfl rfl).read ?_
          refine Sq.nil ?_
          refine hk8 _ _ ?_
          refine Run.cond_f rfl ?_
          refine Run.skip ?_
          refine hk7 _ _ ?_
          refine Run.region ?_
          show Sq _ _ _ [0, 1, 2] _ _ _ _
          refine Sq.quiet (i := 0) rfl (Want.none rfl) rfl (ltN rfl) (QP.move rfl rfl).read ?_
          refine Sq.quiet (i := 1) rfl (Want.none rfl) rfl (ltN rfl) (QP.add64 rfl rfl rfl (by first | omega | (simp only [List.length_map, List.length_append, List.length_cons, List.length_nil, List.length_take, List.length_drop]; omega)) (by first | omega | (simp only [List.length_map, List.length_append, List.length_cons, List.length_nil, List.length_take, List.length_drop]; omega))).read ?_
          refine Sq.quiet (i := 2) rfl (Want.none rfl) rfl (ltN rfl) (QP.assign rfl rfl).read ?_
          refine Sq.nil ?_
          exact J.envJ (J.keep Takes.nil (hl4 (i + 1) (⟨by omega, by omega, fun y hy => by rw [List.take_add_one, hi] at hy; rcases List.mem_append.1 hy with h | h; exact hok y h; simp at h; subst h; exact ⟨by omega, by omega⟩⟩) (by omega))) ⟨rfl, rfl, trivial⟩
    · skip
      refine Sq.quiet (i := 7) rfl (Want.none rfl) rfl (ltN rfl) (QP.pick_t rfl rfl rfl).read ?_
      refine Sq.nil ?_
      refine hk6 _ _ ?_
      refine Run.cond_f rfl ?_
      refine Run.exit rfl ?_
      refine hk2 _ _ ?_
      refine Run.seq fun k11 hk11 => ?_
      refine Run.region ?_
      show Sq _ _ _ [0, 1, 2, 3] _ _ _ _
      refine Sq.quiet (i := 0) rfl (Want.none rfl) rfl (ltN rfl) (QP.move rfl rfl).read ?_
      refine Sq.quiet (i := 1) rfl (Want.none rfl) rfl (ltN rfl) (QP.len rfl rfl rfl Try.underlying22).read ?_
      refine Sq.quiet (i := 2) rfl (Want.none rfl) rfl (ltN rfl) (QP.leq rfl rfl rfl).read ?_
      refine Sq.quiet (i := 3) rfl (Want.none rfl) rfl (ltN rfl) (QP.assign rfl rfl).read ?_
      refine Sq.nil ?_
      refine hk11 _ _ ?_
      refine Run.ret ?_
      exact J.ends (res_tmp rfl rfl) Takes.nil ⟨rfl, _, rfl, fun h => by have h1 := of_decide_eq_true h; exact ⟨by omega, fun x hx => hok x (by rw [List.take_of_length_le (by omega)]; exact hx)⟩⟩
  · skip
    refine Sq.quiet (i := 4) rfl (Want.none rfl) rfl (ltN rfl) (QP.move rfl rfl).read ?_
    refine Sq.skip (i := 5) rfl (Want.no rfl rfl rfl rfl) rfl (ltN rfl) ?_
    refine Sq.skip (i := 6) rfl (Want.no rfl rfl rfl rfl) rfl (ltN rfl) ?_
    refine Sq.quiet (i := 7) rfl (Want.none rfl) rfl (ltN rfl) (QP.pick_f rfl rfl rfl).read ?_
    refine Sq.nil ?_
    refine hk6 _ _ ?_
    refine Run.cond_f rfl ?_
    refine Run.exit rfl ?_
    refine hk2 _ _ ?_
    refine Run.seq fun k12 hk12 => ?_
    refine Run.region ?_
    show Sq _ _ _ [0, 1, 2, 3] _ _ _ _
    refine Sq.quiet (i := 0) rfl (Want.none rfl) rfl (ltN rfl) (QP.move rfl rfl).read ?_
    refine Sq.quiet (i := 1) rfl (Want.none rfl) rfl (ltN rfl) (QP.len rfl rfl rfl Try.underlying22).read ?_
    refine Sq.quiet (i := 2) rfl (Want.none rfl) rfl (ltN rfl) (QP.leq rfl rfl rfl).read ?_
    refine Sq.quiet (i := 3) rfl (Want.none rfl) rfl (ltN rfl) (QP.assign rfl rfl).read ?_
    refine Sq.nil ?_
    refine hk12 _ _ ?_
    refine Run.ret ?_
    exact J.ends (res_tmp rfl rfl) Takes.nil ⟨rfl, _, rfl, fun h => by have h1 := of_decide_eq_true h; exact ⟨by omega, fun x hx => hok x (by rw [List.take_of_length_le (by omega)]; exact hx)⟩⟩

theorem len_ask {most : Int} {M : TabQ} {now : Int} {p : Pair} {id : Bs 8} {q : Int} (h : (M.length : Int) ≤ most) : ((askF most M now p id q).2.2.length : Int) ≤ most := by
  unfold askF
  split
  · split
    · exact h
    · rename_i h1 h2
      rw [len_aset, h1]; simp; omega
  · split
    · rename_i h1 h2
      rw [len_aset, h1]; simp; omega
    · exact h
/-- When attempt i comes. -/
def atE : Nat → Int
  | 0 => 2000
  | 1 => 6000
  | 2 => 14000
  | _ => 30000
def endX (p : Pair) (id : Bs 8) (q : Int) (i : Nat) : Pending := ⟨p, id, q, (i : Int) + 1, atE i⟩
/-- The table behind i attempts. -/
def endM (p : Pair) (id : Bs 8) (q : Int) (i : Nat) : TabQ := if i < 4 then [(⟨p, id⟩, endX p id q i)] else []
theorem atE_get {i : Nat} (h : i < 4) : SubL [Value.int .i64 2000, .int .i64 6000, .int .i64 14000, .int .i64 30000] (Int.toNat i) 1 [.int .i64 (atE i)] := by
  have : i = 0 ∨ i = 1 ∨ i = 2 ∨ i = 3 := by omega
  rcases this with rfl | rfl | rfl | rfl
  · exact ⟨[], _, rfl, rfl, rfl⟩
  · exact ⟨[Value.int .i64 2000], _, rfl, rfl, rfl⟩
  · exact ⟨[Value.int .i64 2000, .int .i64 6000], _, rfl, rfl, rfl⟩
  · exact ⟨[Value.int .i64 2000, .int .i64 6000, .int .i64 14000], _, rfl, rfl, rfl⟩
def sentE (i : Nat) : Int := if i < 3 then (i : Int) + 1 else 4
theorem sent_step {i k : Nat} (h : k = if i < 3 then 1 else 0) : sentE i + (k : Int) = sentE (i + 1) := by
  unfold sentE
  by_cases h3 : i < 3
  · rw [if_pos h3] at h ⊢
    subst h
    split <;> omega
  · rw [if_neg h3] at h ⊢
    subst h
    rw [if_neg (by omega)]; omega
theorem sent_lim (i : Nat) : 0 ≤ sentE i ∧ sentE i ≤ 4 := by unfold sentE; split <;> omega
theorem atE_lim (i : Nat) : 2000 ≤ atE i ∧ atE i ≤ 30000 := by unfold atE; split <;> omega
theorem endM_ok (p : Pair) (id : Bs 8) (q : Int) (i : Nat) : ∀ e ∈ endM p id q i, OkQ e.2 := by
  intro e he
  unfold endM at he
  split at he
  · simp only [List.mem_singleton] at he; subst he
    have := atE_lim i
    unfold OkQ endX; simp only; omega
  · cases he
theorem endM_len (p : Pair) (id : Bs 8) (q : Int) (i : Nat) : (endM p id q i).length ≤ 1 := by unfold endM; split <;> simp
theorem endM_ys {p : Pair} {id : Bs 8} {q : Int} {i : Nat} (hi : i < 4) {ys : List Pending} (h : ys.Perm ((endM p id q i).map (·.2))) : ys = [endX p id q i] := by
  have : (endM p id q i).map (·.2) = [endX p id q i] := by simp [endM, hi]
  rw [this] at h
  exact List.perm_singleton.1 h
theorem tick_early {p : Pair} {id : Bs 8} {q : Int} {i : Nat} : tickQ (atE i - 1) (endM p id q i) [endX p id q i] = (endM p id q i, [], []) := by
  simp only [tickQ, List.foldl_cons, List.foldl_nil, stepQ]
  rw [if_pos (by unfold endX; simp only; omega)]
theorem tick_now {p : Pair} {id : Bs 8} {q : Int} {i : Nat} (hi : i < 4) : tickQ (atE i) (endM p id q i) [endX p id q i] = (endM p id q (i + 1), if i < 3 then [endX p id q (i + 1)] else [], if i < 3 then [] else [endX p id q i]) := by
  simp only [tickQ, List.foldl_cons, List.foldl_nil, stepQ]
  rw [if_neg (by unfold endX; simp only; omega)]
  have : i = 0 ∨ i = 1 ∨ i = 2 ∨ i = 3 := by omega
  rcases this with rfl | rfl | rfl | rfl <;> simp [endX, endM, atE, keyQ, laterQ, aset, adel, IntKind.wrap, IntKind.bits, IntKind.signed]
theorem tickE (F : Fr) {b : Nat} {most : Int} (p : Pair) (id : Bs 8) (q : Int) {i : Nat} (hi : i < 4) :
    Spec Try.prog 12 #[.pointer (some ⟨b, 0, none⟩), .int .i64 (atE i - 1)] [QTab b most (endM p id q i)] F
    fun v S => ∃ va vg, v = .tuple #[va, vg] ∧ S = [QTab b most (endM p id q i), slA 67 45 Pending.enc va [], slA 67 45 Pending.enc vg []] :=
  (tickQT F (by have := endM_len p id q i; omega) _ (by have := atE_lim i; omega) (by have := atE_lim i; omega) (endM_ok p id q i)).mono fun v S ⟨ys, va, vg, e1, e2, _, e3⟩ => by
    obtain rfl := endM_ys hi e2
    rw [tick_early] at e3
    exact ⟨va, vg, e1, e3⟩
theorem tickN (F : Fr) {b : Nat} {most : Int} (p : Pair) (id : Bs 8) (q : Int) {i : Nat} (hi : i < 4) :
    Spec Try.prog 12 #[.pointer (some ⟨b, 0, none⟩), .int .i64 (atE i)] [QTab b most (endM p id q i)] F
    fun v S => ∃ va vg, ∃ la lg : List Pending, v = .tuple #[va, vg] ∧ (la.length = (if i < 3 then 1 else 0) ∧ la.length + lg.length = 1) ∧ S = [QTab b most (endM p id q (i + 1)), slA 67 45 Pending.enc va la, slA 67 45 Pending.enc vg lg] :=
  (tickQT F (by have := endM_len p id q i; omega) _ (by have := atE_lim i; omega) (by have := atE_lim i; omega) (endM_ok p id q i)).mono fun v S ⟨ys, va, vg, e1, e2, _, e3⟩ => by
    obtain rfl := endM_ys hi e2
    rw [tick_now hi] at e3
    exact ⟨va, vg, _, _, e1, by split <;> simp, e3⟩
theorem ask_first (F : Fr) {b : Nat} {most : Int} (hm : 1 ≤ most) (p : Pair) (id : Bs 8) (q : Int) :
    Spec Try.prog 11 #[.pointer (some ⟨b, 0, none⟩), .int .i64 0, .agg (Pair.enc p).toArray, .agg (Bs.enc id).toArray, .int .u16 q] [QTab b most []] F
    fun v S => v = .tuple #[.bool true, .int .i64 0] ∧ S = [QTab b most (endM p id q 0)] :=
  (askT F 0 (by omega) (by omega) p id q).mono fun v S ⟨h1, h2⟩ => by
    have : askF most [] 0 p id q = (true, 0, endM p id q 0) := by
      simp only [askF, alook]
      rw [if_neg (by simp; omega)]
      simp [aset, endM, endX, atE]
    rw [this] at h1 h2
    exact ⟨h1, h2⟩
theorem listN (F : Fr) {b : Nat} {most : Int} {M : TabQ} (hM : M.length ≤ 1000000) : Spec Try.prog 13 #[.pointer (some ⟨b, 0, none⟩)] [QTab b most M] F fun v S => ∃ ys : List Pending, ys.length = M.length ∧ S = [QTab b most M, slA 67 45 Pending.enc v ys] :=
  (listQT F hM).mono fun v S ⟨ys, h1, _, h3⟩ => ⟨ys, by simpa using h1.length_eq, h3⟩

theorem law_ends (F : Fr) (most : Int) {a : Option Addr} {xs : List Law18Act} {c : Nat} (hlen : xs.length ≤ 9223372036854775807) (ha : ArgSl F a 46 Law18Act.enc xs) (p : Pair) (id : Bs 8) (q : Int) : Spec Try.prog 3 #[.int .i64 most, .slice a xs.length c, .agg (Pair.enc p).toArray, .agg (Bs.enc id).toArray, .int .u16 q] [] F (fun v S => v = .bool true ∧ S = []) := by
  refine Spec.intro (N := 137) (args := [.int .i64 most, .slice a xs.length c, .agg (Pair.enc p).toArray, .agg (Bs.enc id).toArray, .int .u16 q]) Try.func3 rfl rfl (by simp) ?_
  refine Run.seq fun k1 hk1 => ?_
  refine Run.region ?_
  show Sq _ _ _ [0, 1, 2] _ _ _ _
  refine Sq.eff (i := 0) rfl (Want.none rfl) rfl (ltN rfl) (EF.boxA rfl rfl) ?_
  rintro _ _ ⟨b7, rfl, rfl⟩
  refine Sq.eff (i := 1) rfl (Want.none rfl) rfl (ltN rfl) (EF.boxA rfl rfl) ?_
  rintro _ _ ⟨b8, rfl, rfl⟩
  refine Sq.quiet (i := 2) rfl (Want.none rfl) rfl (ltN rfl) (QP.assign rfl rfl).read ?_
  refine Sq.nil ?_
  refine hk1 _ _ ?_
  refine Run.seq fun k2 hk2 => ?_
  refine Run.seq fun k3 hk3 => ?_
  refine Run.region ?_
  show Sq _ _ _ [0, 1, 2, 3, 4, 5, 6, 7, 8, 9, 10] _ _ _ _
  refine Sq.quiet (i := 0) rfl (Want.none rfl) rfl (ltN rfl) (QP.move rfl rfl).read ?_
  refine Sq.eff (i := 1) rfl (Want.none rfl) rfl (ltN rfl) (EF.call rfl ce8 rfl Takes.nil (fun F' hle hr => right_spec F' hlen (ha.mono hle))) ?_
  rintro _ _ ⟨_, ⟨rfl, r, rfl, hright⟩, rfl⟩
  refine J.app ?_
  refine J.caseB (fun c24 => ?_) (fun c24 => ?_)
  · skip
    refine Sq.quiet (i := 2) rfl (Want.none rfl) rfl (ltN rfl) (QP.not rfl rfl).read ?_
    refine Sq.quiet (i := 3) rfl (Want.none rfl) rfl (ltN rfl) (QP.move rfl rfl).read ?_
    refine Sq.quiet (i := 4) rfl (Want.yes rfl rfl rfl rfl) rfl (ltN rfl) (QP.move rfl rfl).read ?_
    refine Sq.quiet (i := 5) rfl (Want.yes rfl rfl rfl rfl) rfl (ltN rfl) (QP.lss rfl rfl rfl).read ?_
    refine J.caseD (fun c28 => ?_) (fun c28 => ?_)
    · skip
      refine Sq.quiet (i := 6) rfl (Want.none rfl) rfl (ltN rfl) (QP.pick_f rfl rfl rfl).read ?_
      refine Sq.quiet (i := 7) rfl (Want.none rfl) rfl (ltN rfl) (QP.move rfl rfl).read ?_
      refine Sq.skip (i := 8) rfl (Want.no rfl rfl rfl rfl) rfl (ltN rfl) ?_
      refine Sq.skip (i := 9) rfl (Want.no rfl rfl rfl rfl) rfl (ltN rfl) ?_
      refine Sq.quiet (i := 10) rfl (Want.none rfl) rfl (ltN rfl) (QP.pick_t rfl rfl rfl).read ?_
      refine Sq.nil ?_
      refine hk3 _ _ ?_
      refine Run.cond_t rfl ?_
      refine Run.seq fun k4 hk4 => ?_
      refine Run.region ?_
      show Sq _ _ _ [0, 1] _ _ _ _
      refine Sq.eff (i := 0) rfl (Want.none rfl) rfl (ltN rfl) (EF.call rfl ce9 rfl Takes.nil (fun F' hle hr => live_spec F')) ?_
      rintro _ _ ⟨_, ⟨rfl, rfl⟩, rfl⟩
      refine J.app ?_
      refine Sq.quiet (i := 1) rfl (Want.none rfl) rfl (ltN rfl) (QP.assign rfl rfl).read ?_
      refine Sq.nil ?_
      refine hk4 _ _ ?_
      refine Run.ret ?_
      exact J.ends (res_tmp rfl rfl) Takes.nil ⟨rfl, rfl⟩
    · skip
      refine Sq.quiet (i := 6) rfl (Want.none rfl) rfl (ltN rfl) (QP.pick_f rfl rfl rfl).read ?_
      refine Sq.quiet (i := 7) rfl (Want.none rfl) rfl (ltN rfl) (QP.move rfl rfl).read ?_
      refine Sq.quiet (i := 8) rfl (Want.yes rfl rfl rfl rfl) rfl (ltN rfl) (QP.move rfl rfl).read ?_
      refine Sq.quiet (i := 9) rfl (Want.yes rfl rfl rfl rfl) rfl (ltN rfl) (QP.gtr rfl rfl rfl).read ?_
      refine J.caseD (fun c32 => ?_) (fun c32 => ?_)
      · skip
        refine Sq.quiet (i := 10) rfl (Want.none rfl) rfl (ltN rfl) (QP.pick_f rfl rfl rfl).read ?_
        refine Sq.nil ?_
        refine hk3 _ _ ?_
        refine Run.cond_t rfl ?_
        refine Run.seq fun k5 hk5 => ?_
        refine Run.region ?_
        show Sq _ _ _ [0, 1] _ _ _ _
        refine Sq.eff (i := 0) rfl (Want.none rfl) rfl (ltN rfl) (EF.call rfl ce9 rfl Takes.nil (fun F' hle hr => live_spec F')) ?_
        rintro _ _ ⟨_, ⟨rfl, rfl⟩, rfl⟩
        refine J.app ?_
        refine Sq.quiet (i := 1) rfl (Want.none rfl) rfl (ltN rfl) (QP.assign rfl rfl).read ?_
        refine Sq.nil ?_
        refine hk5 _ _ ?_
        refine Run.ret ?_
        exact J.ends (res_tmp rfl rfl) Takes.nil ⟨rfl, rfl⟩
      · skip
        refine Sq.quiet (i := 10) rfl (Want.none rfl) rfl (ltN rfl) (QP.pick_f rfl rfl rfl).read ?_
        refine Sq.nil ?_
        refine hk3 _ _ ?_
        refine Run.cond_f rfl ?_
        refine Run.skip ?_
        refine hk2 _ _ ?_
        refine Run.seq fun k6 hk6 => ?_
        refine Run.region ?_
        show Sq _ _ _ [0, 1, 2] _ _ _ _
        obtain ⟨hl150, hgap⟩ := hright c24
        have hm1 : 1 ≤ most := by omega
        refine Sq.quiet (i := 0) rfl (Want.none rfl) rfl (ltN rfl) (QP.move rfl rfl).read ?_
        refine Sq.eff (i := 1) rfl (Want.none rfl) rfl (ltN rfl) (EF.call rfl ce10 rfl Takes.nil (fun F' hle hr => newQT F' _)) ?_
        rintro _ _ ⟨_, ⟨b36, rfl, rfl⟩, rfl⟩
        refine J.app ?_
        refine Sq.quiet (i := 2) rfl (Want.none rfl) rfl (ltN rfl) (QP.assign rfl rfl).read ?_
        refine Sq.nil ?_
        refine hk6 _ _ ?_
        refine Run.seq fun k7 hk7 => ?_
        refine Run.seq fun k8 hk8 => ?_
        refine Run.region ?_
        show Sq _ _ _ [0, 1] _ _ _ _
        refine Sq.quiet (i := 0) rfl (Want.none rfl) rfl (ltN rfl) (QP.move rfl rfl).read ?_
        refine Sq.quiet (i := 1) rfl (Want.none rfl) rfl (ltN rfl) (QP.ptr_eq_nil rfl rfl rfl Try.underlying34).read ?_
        refine Sq.nil ?_
        refine hk8 _ _ ?_
        refine Run.cond_f rfl ?_
        refine Run.skip ?_
        refine hk7 _ _ ?_
        refine Run.seq fun k9 hk9 => ?_
        refine Run.region ?_
        show Sq _ _ _ [0, 1, 2, 3, 4, 5, 6, 7, 8, 9] _ _ _ _
        refine Sq.quiet (i := 0) rfl (Want.none rfl) rfl (ltN rfl) (QP.move rfl rfl).read ?_
        refine Sq.quiet (i := 1) rfl (Want.none rfl) rfl (ltN rfl) (QR.load rfl rfl g28 (Pair.enc_sub _)) ?_
        refine Sq.quiet (i := 2) rfl (Want.none rfl) rfl (ltN rfl) (QR.load rfl rfl g30 (Bs.sub _)) ?_
        refine Sq.quiet (i := 3) rfl (Want.none rfl) rfl (ltN rfl) (QP.move rfl rfl).read ?_
        refine Sq.eff (i := 4) rfl (Want.none rfl) rfl (ltN rfl) (EF.call rfl ce11 rfl (.cons (by repeat (first | exact Pick.head | apply Pick.tail)) Takes.nil) (fun F' hle hr => ask_first F' hm1 p id q)) ?_
        rintro _ _ ⟨_, ⟨rfl, rfl⟩, rfl⟩
        refine J.app ?_
        refine Sq.quiet (i := 5) rfl (Want.none rfl) rfl (ltN rfl) (QP.move rfl rfl).read ?_
        refine Sq.quiet (i := 6) rfl (Want.none rfl) rfl (ltN rfl) (QP.extract rfl rfl rfl).read ?_
        refine Sq.quiet (i := 7) rfl (Want.none rfl) rfl (ltN rfl) (QP.extract rfl rfl rfl).read ?_
        refine Sq.quiet (i := 8) rfl (Want.none rfl) rfl (ltN rfl) (QP.assign rfl rfl).read ?_
        refine Sq.quiet (i := 9) rfl (Want.none rfl) rfl (ltN rfl) (QP.assign rfl rfl).read ?_
        refine Sq.nil ?_
        refine hk9 _ _ ?_
        refine Run.seq fun k10 hk10 => ?_
        refine Run.seq fun k11 hk11 => ?_
        refine Run.region ?_
        show Sq _ _ _ [0, 1] _ _ _ _
        refine Sq.quiet (i := 0) rfl (Want.none rfl) rfl (ltN rfl) (QP.move rfl rfl).read ?_
        refine Sq.quiet (i := 1) rfl (Want.none rfl) rfl (ltN rfl) (QP.not rfl rfl).read ?_
        refine Sq.nil ?_
        refine hk11 _ _ ?_
        refine Run.cond_f rfl ?_
        refine Run.skip ?_
        refine hk10 _ _ ?_
        refine Run.seq fun k12 hk12 => ?_
        refine Run.region ?_
        show Sq _ _ _ [0] _ _ _ _
        refine Sq.quiet (i := 0) rfl (Want.none rfl) rfl (ltN rfl) (QP.assign rfl rfl).read ?_
        refine Sq.nil ?_
        refine hk12 _ _ ?_
        refine Run.seq fun k13 hk13 => ?_
        refine Run.seq fun k14 hk14 => ?_
        refine Run.region ?_
        show Sq _ _ _ [0, 1] _ _ _ _
        refine Sq.quiet (i := 0) rfl (Want.none rfl) rfl (ltN rfl) (QP.const (.agg #[.int .i64 2000, .int .i64 6000, .int .i64 14000, .int .i64 30000]) (fun _ _ => by kernel_rfl)).read ?_
        refine Sq.quiet (i := 1) rfl (Want.none rfl) rfl (ltN rfl) (QP.move rfl rfl).read ?_
        refine Sq.nil ?_
        refine hk14 _ _ ?_
        refine Run.block ?_
        refine Run.loop1 (fun (i : Nat) => i ≤ 4) (fun i => .cons 0 (.int .i64 most) (.cons 1 (.slice a xs.length c) (.cons 7 (.pointer (some ⟨b7, 0, none⟩)) (.cons 8 (.pointer (some ⟨b8, 0, none⟩)) (.cons 11 (.pointer (some ⟨b36, 0, none⟩)) (.cons 14 (.int .i64 (sentE i)) (.cons 49 (.agg #[.int .i64 2000, .int .i64 6000, .int .i64 14000, .int .i64 30000]) (.cons 50 (.int .i64 i) (.nil))))))))) (fun i => [QTab b36 most (endM p id q i)]) (fun i => 4 - i) (0) (by omega) ?_ ?_
        · exact fun _ j => J.envJ (J.keep (.cons (by repeat (first | exact Pick.head | apply Pick.tail)) Takes.nil) j) ⟨rfl, rfl, rfl, rfl, rfl, rfl, rfl, rfl, trivial⟩
        rintro i hile4 kl15 hl15
        refine Run.seq fun k16 hk16 => ?_
        refine Run.region ?_
        show Sq _ _ _ [0] _ _ _ _
        refine Sq.quiet (i := 0) rfl (Want.none rfl) rfl (ltN rfl) (QP.lss rfl rfl rfl).read ?_
        refine J.caseD (fun c51 => ?_) (fun c51 => ?_)
        · skip
          refine Sq.nil ?_
          refine hk16 _ _ ?_
          refine Run.seq fun k17 hk17 => ?_
          refine Run.cond_t rfl ?_
          refine Run.skip ?_
          refine hk17 _ _ ?_
          refine Run.seq fun k18 hk18 => ?_
          refine Run.block ?_
          refine Run.seq fun k19 hk19 => ?_
          refine Run.region ?_
          show Sq _ _ _ [0, 1] _ _ _ _
          have hlt4 : i < 4 := by omega
          have hat := atE_lim i
          have hse := sent_lim i
          refine Sq.quiet (i := 0) rfl (Want.none rfl) rfl (ltN rfl) (QP.indexL rfl rfl rfl Try.underlying39 g3 (by omega) (by omega) (atE_get hlt4)).read ?_
          refine Sq.quiet (i := 1) rfl (Want.none rfl) rfl (ltN rfl) (QP.assign rfl rfl).read ?_
          refine Sq.nil ?_
          refine hk19 _ _ ?_
          refine Run.seq fun k20 hk20 => ?_
          refine Run.region ?_
          show Sq _ _ _ [0, 1, 2, 3, 4, 5, 6, 7, 8] _ _ _ _
          refine Sq.quiet (i := 0) rfl (Want.none rfl) rfl (ltN rfl) (QP.move rfl rfl).read ?_
          refine Sq.quiet (i := 1) rfl (Want.none rfl) rfl (ltN rfl) (QP.move rfl rfl).read ?_
          refine Sq.quiet (i := 2) rfl (Want.none rfl) rfl (ltN rfl) (QP.sub64 rfl rfl rfl (by first | omega | (simp only [List.length_map, List.length_append, List.length_cons, List.length_nil, List.length_take, List.length_drop]; omega)) (by first | omega | (simp only [List.length_map, List.length_append, List.length_cons, List.length_nil, List.length_take, List.length_drop]; omega))).read ?_
          refine Sq.eff (i := 3) rfl (Want.none rfl) rfl (ltN rfl) (EF.call rfl ce12 rfl (.cons (by repeat (first | exact Pick.head | apply Pick.tail)) Takes.nil) (fun F' hle hr => tickE F' p id q hlt4)) ?_
          rintro _ _ ⟨_, ⟨va57, vg57, rfl, rfl⟩, rfl⟩
          refine J.app ?_
          refine J.slNil (v := va57) (xs := []) (by repeat (first | exact List.Mem.head _ | apply List.Mem.tail)) rfl (fun a57a c57a hv57a => ?_)
          subst hv57a
          show Sq _ _ _ _ _ _ _ _
          refine J.slNil (v := vg57) (xs := []) (by repeat (first | exact List.Mem.head _ | apply List.Mem.tail)) rfl (fun a57g c57g hv57g => ?_)
          subst hv57g
          show Sq _ _ _ _ _ _ _ _
          refine Sq.quiet (i := 4) rfl (Want.none rfl) rfl (ltN rfl) (QP.move rfl rfl).read ?_
          refine Sq.quiet (i := 5) rfl (Want.none rfl) rfl (ltN rfl) (QP.extract rfl rfl rfl).read ?_
          refine Sq.quiet (i := 6) rfl (Want.none rfl) rfl (ltN rfl) (QP.extract rfl rfl rfl).read ?_
          refine Sq.quiet (i := 7) rfl (Want.none rfl) rfl (ltN rfl) (QP.assign rfl rfl).read ?_
          refine Sq.quiet (i := 8) rfl (Want.none rfl) rfl (ltN rfl) (QP.assign rfl rfl).read ?_
          refine Sq.nil ?_
          refine hk20 _ _ ?_
          refine Run.seq fun k21 hk21 => ?_
          refine Run.region ?_
          show Sq _ _ _ [0, 1, 2, 3, 4, 5, 6, 7] _ _ _ _
          refine Sq.quiet (i := 0) rfl (Want.none rfl) rfl (ltN rfl) (QP.move rfl rfl).read ?_
          refine Sq.quiet (i := 1) rfl (Want.none rfl) rfl (ltN rfl) (QP.move rfl rfl).read ?_
          refine Sq.eff (i := 2) rfl (Want.none rfl) rfl (ltN rfl) (EF.call rfl ce12 rfl (.cons (by repeat (first | exact Pick.head | apply Pick.tail)) Takes.nil) (fun F' hle hr => tickN F' p id q hlt4)) ?_
          rintro _ _ ⟨_, ⟨va62, vg62, la, lg, rfl, hlag, rfl⟩, rfl⟩
          refine J.app ?_
          refine J.slHead (v := va62) (xs := la) (by repeat (first | exact List.Mem.head _ | apply List.Mem.tail)) (fun a62a c62a hv62a hs62a => ?_)
          subst hv62a
          show Sq _ _ _ _ _ _ _ _
          refine J.slHead (v := vg62) (xs := lg) (by repeat (first | exact List.Mem.head _ | apply List.Mem.tail)) (fun a62g c62g hv62g hs62g => ?_)
          subst hv62g
          show Sq _ _ _ _ _ _ _ _
          refine Sq.quiet (i := 3) rfl (Want.none rfl) rfl (ltN rfl) (QP.move rfl rfl).read ?_
          refine Sq.quiet (i := 4) rfl (Want.none rfl) rfl (ltN rfl) (QP.extract rfl rfl rfl).read ?_
          refine Sq.quiet (i := 5) rfl (Want.none rfl) rfl (ltN rfl) (QP.extract rfl rfl rfl).read ?_
          refine Sq.quiet (i := 6) rfl (Want.none rfl) rfl (ltN rfl) (QP.assign rfl rfl).read ?_
          refine Sq.quiet (i := 7) rfl (Want.none rfl) rfl (ltN rfl) (QP.assign rfl rfl).read ?_
          refine Sq.nil ?_
          refine hk21 _ _ ?_
          refine Run.seq fun k22 hk22 => ?_
          refine Run.seq fun k23 hk23 => ?_
          refine Run.region ?_
          show Sq _ _ _ [0, 1, 2, 3, 4, 5, 6, 7, 8, 9, 10, 11, 12, 13] _ _ _ _
          refine Sq.quiet (i := 0) rfl (Want.none rfl) rfl (ltN rfl) (QP.move rfl rfl).read ?_
          refine Sq.quiet (i := 1) rfl (Want.none rfl) rfl (ltN rfl) (QP.len rfl rfl rfl Try.underlying40).read ?_
          refine Sq.quiet (i := 2) rfl (Want.none rfl) rfl (ltN rfl) (QP.move rfl rfl).read ?_
          refine Sq.quiet (i := 3) rfl (Want.none rfl) rfl (ltN rfl) (QP.len rfl rfl rfl Try.underlying40).read ?_
          refine Sq.quiet (i := 4) rfl (Want.none rfl) rfl (ltN rfl) (QP.add64 rfl rfl rfl (by first | omega | (simp only [List.length_map, List.length_append, List.length_cons, List.length_nil, List.length_take, List.length_drop]; omega)) (by first | omega | (simp only [List.length_map, List.length_append, List.length_cons, List.length_nil, List.length_take, List.length_drop]; omega))).read ?_
          refine Sq.quiet (i := 5) rfl (Want.none rfl) rfl (ltN rfl) (QP.neq rfl rfl rfl).read ?_
          refine J.decF (by simp) ?_
          refine Sq.quiet (i := 6) rfl (Want.none rfl) rfl (ltN rfl) (QP.move rfl rfl).read ?_
          refine Sq.quiet (i := 7) rfl (Want.yes rfl rfl rfl rfl) rfl (ltN rfl) (QP.move rfl rfl).read ?_
          refine Sq.quiet (i := 8) rfl (Want.yes rfl rfl rfl rfl) rfl (ltN rfl) (QP.len rfl rfl rfl Try.underlying40).read ?_
          refine Sq.quiet (i := 9) rfl (Want.yes rfl rfl rfl rfl) rfl (ltN rfl) (QP.move rfl rfl).read ?_
          refine Sq.quiet (i := 10) rfl (Want.yes rfl rfl rfl rfl) rfl (ltN rfl) (QP.len rfl rfl rfl Try.underlying40).read ?_
          refine Sq.quiet (i := 11) rfl (Want.yes rfl rfl rfl rfl) rfl (ltN rfl) (QP.add64 rfl rfl rfl (by first | omega | (simp only [List.length_map, List.length_append, List.length_cons, List.length_nil, List.length_take, List.length_drop]; omega)) (by first | omega | (simp only [List.length_map, List.length_append, List.length_cons, List.length_nil, List.length_take, List.length_drop]; omega))).read ?_
          refine Sq.quiet (i := 12) rfl (Want.yes rfl rfl rfl rfl) rfl (ltN rfl) (QP.neq rfl rfl rfl).read ?_
          refine J.decF (by omega) ?_
          refine Sq.quiet (i := 13) rfl (Want.none rfl) rfl (ltN rfl) (QP.pick_f rfl rfl rfl).read ?_
          refine Sq.nil ?_
          refine hk23 _ _ ?_
          refine Run.cond_f rfl ?_
          refine Run.skip ?_
          refine hk22 _ _ ?_
          refine Run.region ?_
          show Sq _ _ _ [0, 1, 2, 3, 4] _ _ _ _
          refine Sq.quiet (i := 0) rfl (Want.none rfl) rfl (ltN rfl) (QP.move rfl rfl).read ?_
          refine Sq.quiet (i := 1) rfl (Want.none rfl) rfl (ltN rfl) (QP.move rfl rfl).read ?_
          refine Sq.quiet (i := 2) rfl (Want.none rfl) rfl (ltN rfl) (QP.len rfl rfl rfl Try.underlying40).read ?_
          refine Sq.quiet (i := 3) rfl (Want.none rfl) rfl (ltN rfl) (QP.add64 rfl rfl rfl (by first | omega | (simp only [List.length_map, List.length_append, List.length_cons, List.length_nil, List.length_take, List.length_drop]; omega)) (by first | omega | (simp only [List.length_map, List.length_append, List.length_cons, List.length_nil, List.length_take, List.length_drop]; omega))).read ?_
          refine Sq.quiet (i := 4) rfl (Want.none rfl) rfl (ltN rfl) (QP.assign rfl rfl).read ?_
          refine Sq.nil ?_
          refine hk18 _ _ ?_
          refine Run.region ?_
          show Sq _ _ _ [0, 1] _ _ _ _
          refine Sq.quiet (i := 0) rfl (Want.none rfl) rfl (ltN rfl) (QP.add64 rfl rfl rfl (by first | omega | (simp only [List.length_map, List.length_append, List.length_cons, List.length_nil, List.length_take, List.length_drop]; omega)) (by first | omega | (simp only [List.length_map, List.length_append, List.length_cons, List.length_nil, List.length_take, List.length_drop]; omega))).read ?_
          refine Sq.quiet (i := 1) rfl (Want.none rfl) rfl (ltN rfl) (QP.move rfl rfl).read ?_
          refine Sq.nil ?_
          exact J.envJ (J.keep (.cons (by repeat (first | exact Pick.head | apply Pick.tail)) Takes.nil) (hl15 (i + 1) (by omega) (by omega))) ⟨rfl, rfl, rfl, rfl, rfl, (congrArg (fun n => some (Value.int .i64 n)) (sent_step hlag.1)), rfl, rfl, trivial⟩
        · skip
          refine Sq.nil ?_
          refine hk16 _ _ ?_
          refine Run.seq fun k24 hk24 => ?_
          refine Run.cond_f rfl ?_
          refine Run.exit rfl ?_
          refine hk13 _ _ ?_
          refine Run.seq fun k25 hk25 => ?_
          refine Run.seq fun k26 hk26 => ?_
          refine Run.region ?_
          show Sq _ _ _ [0, 1, 2, 3, 4, 5, 6, 7] _ _ _ _
          have hi4 : i = 4 := by omega
          subst hi4
          refine Sq.quiet (i := 0) rfl (Want.none rfl) rfl (ltN rfl) (QP.move rfl rfl).read ?_
          refine Sq.quiet (i := 1) rfl (Want.none rfl) rfl (ltN rfl) (QP.neq rfl rfl rfl).read ?_
          refine J.decF (by simp [sentE]) ?_
          refine Sq.quiet (i := 2) rfl (Want.none rfl) rfl (ltN rfl) (QP.move rfl rfl).read ?_
          refine Sq.quiet (i := 3) rfl (Want.yes rfl rfl rfl rfl) rfl (ltN rfl) (QP.move rfl rfl).read ?_
          refine Sq.eff (i := 4) rfl (Want.yes rfl rfl rfl rfl) rfl (ltN rfl) (EF.call rfl ce13 rfl (.cons (by repeat (first | exact Pick.head | apply Pick.tail)) Takes.nil) (fun F' hle hr => listN F' (M := endM p id q 4) (by simp [endM]))) ?_
          rintro v89 _ ⟨_, ⟨ys89, hy89, rfl⟩, rfl⟩
          refine J.app ?_
          refine J.slHead (v := v89) (xs := ys89) (by repeat (first | exact List.Mem.head _ | apply List.Mem.tail)) (fun a89 c89 hv89 hs89 => ?_)
          subst hv89
          show Sq _ _ _ _ _ _ _ _
          refine Sq.quiet (i := 5) rfl (Want.yes rfl rfl rfl rfl) rfl (ltN rfl) (QP.len rfl rfl rfl Try.underlying40).read ?_
          refine Sq.quiet (i := 6) rfl (Want.yes rfl rfl rfl rfl) rfl (ltN rfl) (QP.neq rfl rfl rfl).read ?_
          refine J.decF (by rw [hy89]; simp [endM]) ?_
          refine Sq.quiet (i := 7) rfl (Want.none rfl) rfl (ltN rfl) (QP.pick_f rfl rfl rfl).read ?_
          refine Sq.nil ?_
          refine hk26 _ _ ?_
          refine Run.cond_f rfl ?_
          refine Run.skip ?_
          refine hk25 _ _ ?_
          refine Run.seq fun k27 hk27 => ?_
          refine Run.region ?_
          show Sq _ _ _ [0] _ _ _ _
          refine Sq.quiet (i := 0) rfl (Want.none rfl) rfl (ltN rfl) (QP.assign rfl rfl).read ?_
          refine Sq.nil ?_
          refine hk27 _ _ ?_
          refine Run.seq fun k28 hk28 => ?_
          refine Run.seq fun k29 hk29 => ?_
          refine Run.region ?_
          show Sq _ _ _ [0] _ _ _ _
          refine Sq.quiet (i := 0) rfl (Want.none rfl) rfl (ltN rfl) (QP.assign rfl rfl).read ?_
          refine Sq.nil ?_
          refine hk29 _ _ ?_
          refine Run.block ?_
          refine Run.loop3 (fun (i : Nat) (now : Int) (M : TabQ) => i ≤ xs.length ∧ 30000 ≤ now ∧ now ≤ 30000 + i * 1073741824 ∧ (M.length : Int) ≤ most) (fun i now M => .cons 0 (.int .i64 most) (.cons 1 (.slice a xs.length c) (.cons 11 (.pointer (some ⟨b36, 0, none⟩)) (.cons 21 (.int .i64 now) (.cons 22 (.int .i64 i) (.nil)))))) (fun i now M => [QTab b36 most M]) (fun i now M => xs.length - i) (0) (30000) (endM p id q 4) (⟨Nat.zero_le _, Int.le_refl _, by omega, by simp [endM]; omega⟩) ?_ ?_
          · exact fun _ j => J.envJ (J.keep (.cons (by repeat (first | exact Pick.head | apply Pick.tail)) Takes.nil) j) ⟨rfl, rfl, rfl, rfl, rfl, trivial⟩
          rintro i now M ⟨hile, hn0, hn1, hMl⟩ kl30 hl30
          refine Run.seq fun k31 hk31 => ?_
          refine Run.seq fun k32 hk32 => ?_
          refine Run.region ?_
          show Sq _ _ _ [0, 1, 2, 3] _ _ _ _
          refine Sq.quiet (i := 0) rfl (Want.none rfl) rfl (ltN rfl) (QP.move rfl rfl).read ?_
          refine Sq.quiet (i := 1) rfl (Want.none rfl) rfl (ltN rfl) (QP.move rfl rfl).read ?_
          refine Sq.quiet (i := 2) rfl (Want.none rfl) rfl (ltN rfl) (QP.len rfl rfl rfl Try.underlying22).read ?_
          refine Sq.quiet (i := 3) rfl (Want.none rfl) rfl (ltN rfl) (QP.lss rfl rfl rfl).read ?_
          refine J.caseD (fun c96 => ?_) (fun c96 => ?_)
          · skip
            refine Sq.nil ?_
            refine hk32 _ _ ?_
            refine Run.cond_t rfl ?_
            refine Run.skip ?_
            refine hk31 _ _ ?_
            refine Run.seq fun k33 hk33 => ?_
            refine Run.block ?_
            refine Run.seq fun k34 hk34 => ?_
            refine Run.region ?_
            show Sq _ _ _ [0, 1, 2, 3, 4, 5, 6, 7] _ _ _ _
            have hlt : i < xs.length := by omega
            obtain ⟨x, hi⟩ : ∃ x, xs[i]? = some x := ⟨_, List.getElem?_eq_getElem hlt⟩
            obtain ⟨b0, o0, rfl, hs0⟩ := ha.get (by omega)
            have hg := hgap x (List.mem_of_getElem? hi)
            unfold okGap at hg
            refine Sq.quiet (i := 0) rfl (Want.none rfl) rfl (ltN rfl) (QP.move rfl rfl).read ?_
            refine Sq.quiet (i := 1) rfl (Want.none rfl) rfl (ltN rfl) (QP.move rfl rfl).read ?_
            refine Sq.quiet (i := 2) rfl (Want.none rfl) rfl (ltN rfl) (QP.move rfl rfl).read ?_
            refine Sq.quiet (i := 3) rfl (Want.none rfl) rfl (ltN rfl) (QP.indexAddr rfl rfl rfl Try.underlying22 z47 (by first | omega | (simp only [List.length_map, List.length_append, List.length_cons, List.length_nil, List.length_take, List.length_drop]; omega)) (by first | omega | (simp only [List.length_map, List.length_append, List.length_cons, List.length_nil, List.length_take, List.length_drop]; omega))).read ?_
            refine Sq.quiet (i := 4) rfl (Want.none rfl) rfl (ltN rfl) (QP.fieldAddr rfl rfl f47_1).read ?_
            refine Sq.quiet (i := 5) rfl (Want.none rfl) rfl (ltN rfl) (QR.loadSlF1 rfl rfl g3 Law18Act.enc_len (hs0 _) hi (Law18Act.sub_gap _)) ?_
            refine Sq.quiet (i := 6) rfl (Want.none rfl) rfl (ltN rfl) (QP.add64 rfl rfl rfl (by first | omega | (simp only [List.length_map, List.length_append, List.length_cons, List.length_nil, List.length_take, List.length_drop]; omega)) (by first | omega | (simp only [List.length_map, List.length_append, List.length_cons, List.length_nil, List.length_take, List.length_drop]; omega))).read ?_
            refine Sq.quiet (i := 7) rfl (Want.none rfl) rfl (ltN rfl) (QP.assign rfl rfl).read ?_
            refine Sq.nil ?_
            refine hk34 _ _ ?_
            refine Run.seq fun k35 hk35 => ?_
            refine Run.seq fun k36 hk36 => ?_
            refine Run.region ?_
            show Sq _ _ _ [0, 1, 2, 3, 4, 5] _ _ _ _
            refine Sq.quiet (i := 0) rfl (Want.none rfl) rfl (ltN rfl) (QP.move rfl rfl).read ?_
            refine Sq.quiet (i := 1) rfl (Want.none rfl) rfl (ltN rfl) (QP.move rfl rfl).read ?_
            refine Sq.quiet (i := 2) rfl (Want.none rfl) rfl (ltN rfl) (QP.indexAddr rfl rfl rfl Try.underlying22 z47 (by first | omega | (simp only [List.length_map, List.length_append, List.length_cons, List.length_nil, List.length_take, List.length_drop]; omega)) (by first | omega | (simp only [List.length_map, List.length_append, List.length_cons, List.length_nil, List.length_take, List.length_drop]; omega))).read ?_
            refine Sq.quiet (i := 3) rfl (Want.none rfl) rfl (ltN rfl) (QP.fieldAddr rfl rfl f47_0).read ?_
            refine Sq.quiet (i := 4) rfl (Want.none rfl) rfl (ltN rfl) (QR.loadSlF1 rfl rfl g3 Law18Act.enc_len (hs0 _) hi (Law18Act.sub_kind _)) ?_
            refine Sq.quiet (i := 5) rfl (Want.none rfl) rfl (ltN rfl) (QP.eql rfl rfl rfl).read ?_
            refine J.caseD (fun c111 => ?_) (fun c111 => ?_)
            · skip
              refine Sq.nil ?_
              refine hk36 _ _ ?_
              refine Run.cond_t rfl ?_
              refine Run.regionD (M := [0, 0, 0, 0, 12, 28, 60, 0, 0, 384, 896, 1920, 0, 0, 12288, 28672, 61440, 126976, 262143]) (q := 262143) (r := 133184) (by kernel_rfl) ?_
              refine Dw.pure (i := 0) rfl (by kernel_rfl) (Want.none rfl) rfl (ltN rfl) (QP.move rfl rfl) ?_
              refine Dw.pure (i := 1) rfl (by kernel_rfl) (Want.none rfl) rfl (ltN rfl) (QP.move rfl rfl) ?_
              refine Dw.pure (i := 2) rfl (by kernel_rfl) (Want.none rfl) rfl (ltN rfl) (QP.move rfl rfl) ?_
              refine Dw.pure (i := 3) rfl (by kernel_rfl) (Want.none rfl) rfl (ltN rfl) (QP.move rfl rfl) ?_
              refine Dw.pure (i := 4) rfl (by kernel_rfl) (Want.none rfl) rfl (ltN rfl) (QP.indexAddr rfl rfl rfl Try.underlying22 z47 (by first | omega | (simp only [List.length_map, List.length_append, List.length_cons, List.length_nil, List.length_take, List.length_drop]; omega)) (by first | omega | (simp only [List.length_map, List.length_append, List.length_cons, List.length_nil, List.length_take, List.length_drop]; omega))) ?_
              refine Dw.pure (i := 5) rfl (by kernel_rfl) (Want.none rfl) rfl (ltN rfl) (QP.fieldAddr rfl rfl f47_2) ?_
              refine Dw.read (i := 6) rfl (by kernel_rfl) (Want.none rfl) rfl (ltN rfl) (QR.loadSlF rfl rfl g28 Law18Act.enc_len (hs0 _) hi (Law18Act.sub_p _)) ?_
              refine Dw.pure (i := 7) rfl (by kernel_rfl) (Want.none rfl) rfl (ltN rfl) (QP.move rfl rfl) ?_
              refine Dw.pure (i := 8) rfl (by kernel_rfl) (Want.none rfl) rfl (ltN rfl) (QP.move rfl rfl) ?_
              refine Dw.pure (i := 9) rfl (by kernel_rfl) (Want.none rfl) rfl (ltN rfl) (QP.indexAddr rfl rfl rfl Try.underlying22 z47 (by first | omega | (simp only [List.length_map, List.length_append, List.length_cons, List.length_nil, List.length_take, List.length_drop]; omega)) (by first | omega | (simp only [List.length_map, List.length_append, List.length_cons, List.length_nil, List.length_take, List.length_drop]; omega))) ?_
              refine Dw.pure (i := 10) rfl (by kernel_rfl) (Want.none rfl) rfl (ltN rfl) (QP.fieldAddr rfl rfl f47_3) ?_
              refine Dw.read (i := 11) rfl (by kernel_rfl) (Want.none rfl) rfl (ltN rfl) (QR.loadSlF rfl rfl g30 Law18Act.enc_len (hs0 _) hi (Law18Act.sub_id_ _)) ?_
              refine Dw.pure (i := 12) rfl (by kernel_rfl) (Want.none rfl) rfl (ltN rfl) (QP.move rfl rfl) ?_
              refine Dw.pure (i := 13) rfl (by kernel_rfl) (Want.none rfl) rfl (ltN rfl) (QP.move rfl rfl) ?_
              refine Dw.pure (i := 14) rfl (by kernel_rfl) (Want.none rfl) rfl (ltN rfl) (QP.indexAddr rfl rfl rfl Try.underlying22 z47 (by first | omega | (simp only [List.length_map, List.length_append, List.length_cons, List.length_nil, List.length_take, List.length_drop]; omega)) (by first | omega | (simp only [List.length_map, List.length_append, List.length_cons, List.length_nil, List.length_take, List.length_drop]; omega))) ?_
              refine Dw.pure (i := 15) rfl (by kernel_rfl) (Want.none rfl) rfl (ltN rfl) (QP.fieldAddr rfl rfl f47_4) ?_
              refine Dw.pure (i := 16) rfl (by kernel_rfl) (Want.none rfl) rfl (ltN rfl) (QP.fieldAddr rfl rfl f45_0) ?_
              refine Dw.read (i := 17) rfl (by kernel_rfl) (Want.none rfl) rfl (ltN rfl) (QR.loadSlF1 rfl rfl g31 Law18Act.enc_len (hs0 _) hi ((Law18Act.sub_d _).trans (Distance.sub_seqno _))) ?_
              refine Dw.eff (i := 18) (by kernel_rfl) (by kernel_rfl) ?_
              refine One.mk (o := _) (l := []) rfl (by kernel_rfl) (Want.none rfl) rfl (ltN rfl) (EF.call rfl ce11 rfl (.cons (by repeat (first | exact Pick.head | apply Pick.tail)) Takes.nil) (fun F' hle hr => askT F' _ (by omega) (by omega) _ _ _)) (by kernel_rfl) ?_
              rintro _ _ ⟨_, ⟨rfl, rfl⟩, rfl⟩
              refine ⟨fun _ h => (by cases h), ?_⟩
              refine J.app ?_
              refine Dw.nil (by kernel_rfl) ?_
              refine hk35 _ _ ?_
              refine Run.seq fun k37 hk37 => ?_
              refine Run.region ?_
              show Sq _ _ _ [0, 1, 2, 3, 4] _ _ _ _
              have hM2 : (((askF most M (now + x.gap) x.p x.id_ x.d.seqno).2.2).length : Int) ≤ most := len_ask hMl
              refine Sq.quiet (i := 0) rfl (Want.none rfl) rfl (ltN rfl) (QP.move rfl rfl).read ?_
              refine Sq.eff (i := 1) rfl (Want.none rfl) rfl (ltN rfl) (EF.call rfl ce13 rfl (.cons (by repeat (first | exact Pick.head | apply Pick.tail)) Takes.nil) (fun F' hle hr => listN F' (M := (askF most M (now + x.gap) x.p x.id_ x.d.seqno).2.2) (by omega))) ?_
              rintro v132 _ ⟨_, ⟨ys132, hy132, rfl⟩, rfl⟩
              refine J.app ?_
              refine J.slHead (v := v132) (xs := ys132) (by repeat (first | exact List.Mem.head _ | apply List.Mem.tail)) (fun a132 c132 hv132 hs132 => ?_)
              subst hv132
              show Sq _ _ _ _ _ _ _ _
              refine Sq.quiet (i := 2) rfl (Want.none rfl) rfl (ltN rfl) (QP.len rfl rfl rfl Try.underlying40).read ?_
              refine Sq.quiet (i := 3) rfl (Want.none rfl) rfl (ltN rfl) (QP.move rfl rfl).read ?_
              refine Sq.quiet (i := 4) rfl (Want.none rfl) rfl (ltN rfl) (QP.gtr rfl rfl rfl).read ?_
              refine J.decF (by omega) ?_
              refine Sq.nil ?_
              refine hk37 _ _ ?_
              refine Run.cond_f rfl ?_
              refine Run.skip ?_
              refine hk33 _ _ ?_
              refine Run.region ?_
              show Sq _ _ _ [0, 1, 2] _ _ _ _
              refine Sq.quiet (i := 0) rfl (Want.none rfl) rfl (ltN rfl) (QP.move rfl rfl).read ?_
              refine Sq.quiet (i := 1) rfl (Want.none rfl) rfl (ltN rfl) (QP.add64 rfl rfl rfl (by first | omega | (simp only [List.length_map, List.length_append, List.length_cons, List.length_nil, List.length_take, List.length_drop]; omega)) (by first | omega | (simp only [List.length_map, List.length_append, List.length_cons, List.length_nil, List.length_take, List.length_drop]; omega))).read ?_
              refine Sq.quiet (i := 2) rfl (Want.none rfl) rfl (ltN rfl) (QP.assign rfl rfl).read ?_
              refine Sq.nil ?_
              exact J.envJ (J.keep (.cons (by repeat (first | exact Pick.head | apply Pick.tail)) Takes.nil) (hl30 (i + 1) (now + x.gap) ((askF most M (now + x.gap) x.p x.id_ x.d.seqno).2.2) (⟨by omega, by omega, by omega, hM2⟩) (by omega))) ⟨rfl, rfl, rfl, rfl, rfl, trivial⟩
            · skip
              refine Sq.nil ?_
              refine hk36 _ _ ?_
              refine Run.cond_f rfl ?_
              refine Run.skip ?_
              refine hk35 _ _ ?_
              refine Run.seq fun k38 hk38 => ?_
              refine Run.region ?_
              show Sq _ _ _ [0, 1, 2, 3, 4] _ _ _ _
              have hM2 : ((M).length : Int) ≤ most := hMl
              refine Sq.quiet (i := 0) rfl (Want.none rfl) rfl (ltN rfl) (QP.move rfl rfl).read ?_
              refine Sq.eff (i := 1) rfl (Want.none rfl) rfl (ltN rfl) (EF.call rfl ce13 rfl (.cons (by repeat (first | exact Pick.head | apply Pick.tail)) Takes.nil) (fun F' hle hr => listN F' (M := M) (by omega))) ?_
              rintro v132 _ ⟨_, ⟨ys132, hy132, rfl⟩, rfl⟩
              refine J.app ?_
              refine J.slHead (v := v132) (xs := ys132) (by repeat (first | exact List.Mem.head _ | apply List.Mem.tail)) (fun a132 c132 hv132 hs132 => ?_)
              subst hv132
              show Sq _ _ _ _ _ _ _ _
              refine Sq.quiet (i := 2) rfl (Want.none rfl) rfl (ltN rfl) (QP.len rfl rfl rfl Try.underlying40).read ?_
              refine Sq.quiet (i := 3) rfl (Want.none rfl) rfl (ltN rfl) (QP.move rfl rfl).read ?_
              refine Sq.quiet (i := 4) rfl (Want.none rfl) rfl (ltN rfl) (QP.gtr rfl rfl rfl).read ?_
              refine J.decF (by omega) ?_
              refine Sq.nil ?_
              refine hk38 _ _ ?_
              refine Run.cond_f rfl ?_
              refine Run.skip ?_
              refine hk33 _ _ ?_
              refine Run.region ?_
              show Sq _ _ _ [0, 1, 2] _ _ _ _
              refine Sq.quiet (i := 0) rfl (Want.none rfl) rfl (ltN rfl) (QP.move rfl rfl).read ?_
              refine Sq.quiet (i := 1) rfl (Want.none rfl) rfl (ltN rfl) (QP.add64 rfl rfl rfl (by first | omega | (simp only [List.length_map, List.length_append, List.length_cons, List.length_nil, List.length_take, List.length_drop]; omega)) (by first | omega | (simp only [List.length_map, List.length_append, List.length_cons, List.length_nil, List.length_take, List.length_drop]; omega))).read ?_
              refine Sq.quiet (i := 2) rfl (Want.none rfl) rfl (ltN rfl) (QP.assign rfl rfl).read ?_
              refine Sq.nil ?_
              exact J.envJ (J.keep (.cons (by repeat (first | exact Pick.head | apply Pick.tail)) Takes.nil) (hl30 (i + 1) (now + x.gap) (M) (⟨by omega, by omega, by omega, hM2⟩) (by omega))) ⟨rfl, rfl, rfl, rfl, rfl, trivial⟩
          · skip
            refine Sq.nil ?_
            refine hk32 _ _ ?_
            refine Run.cond_f rfl ?_
            refine Run.exit rfl ?_
            refine hk28 _ _ ?_
            refine Run.seq fun k39 hk39 => ?_
            refine Run.region ?_
            show Sq _ _ _ [0, 1] _ _ _ _
            refine Sq.eff (i := 0) rfl (Want.none rfl) rfl (ltN rfl) (EF.call rfl ce9 rfl Takes.nil (fun F' hle hr => live_spec F')) ?_
            rintro _ _ ⟨_, ⟨rfl, rfl⟩, rfl⟩
            refine J.app ?_
            refine Sq.quiet (i := 1) rfl (Want.none rfl) rfl (ltN rfl) (QP.assign rfl rfl).read ?_
            refine Sq.nil ?_
            refine hk39 _ _ ?_
            refine Run.ret ?_
            exact J.ends (res_tmp rfl rfl) Takes.nil ⟨rfl, rfl⟩
  · skip
    refine Sq.quiet (i := 2) rfl (Want.none rfl) rfl (ltN rfl) (QP.not rfl rfl).read ?_
    refine Sq.quiet (i := 3) rfl (Want.none rfl) rfl (ltN rfl) (QP.move rfl rfl).read ?_
    refine Sq.skip (i := 4) rfl (Want.no rfl rfl rfl rfl) rfl (ltN rfl) ?_
    refine Sq.skip (i := 5) rfl (Want.no rfl rfl rfl rfl) rfl (ltN rfl) ?_
    refine Sq.quiet (i := 6) rfl (Want.none rfl) rfl (ltN rfl) (QP.pick_t rfl rfl rfl).read ?_
    refine Sq.quiet (i := 7) rfl (Want.none rfl) rfl (ltN rfl) (QP.move rfl rfl).read ?_
    refine Sq.skip (i := 8) rfl (Want.no rfl rfl rfl rfl) rfl (ltN rfl) ?_
    refine Sq.skip (i := 9) rfl (Want.no rfl rfl rfl rfl) rfl (ltN rfl) ?_
    refine Sq.quiet (i := 10) rfl (Want.none rfl) rfl (ltN rfl) (QP.pick_t rfl rfl rfl).read ?_
    refine Sq.nil ?_
    refine hk3 _ _ ?_
    refine Run.cond_t rfl ?_
    refine Run.seq fun k40 hk40 => ?_
    refine Run.region ?_
    show Sq _ _ _ [0, 1] _ _ _ _
    refine Sq.eff (i := 0) rfl (Want.none rfl) rfl (ltN rfl) (EF.call rfl ce9 rfl Takes.nil (fun F' hle hr => live_spec F')) ?_
    rintro _ _ ⟨_, ⟨rfl, rfl⟩, rfl⟩
    refine J.app ?_
    refine Sq.quiet (i := 1) rfl (Want.none rfl) rfl (ltN rfl) (QP.assign rfl rfl).read ?_
    refine Sq.nil ?_
    refine hk40 _ _ ?_
    refine Run.ret ?_
    exact J.ends (res_tmp rfl rfl) Takes.nil ⟨rfl, rfl⟩
end Slb
