/- T20: a part of the proof that a law of this package holds for every input; no condition. -/
import Derived.Test.YtakpmaoblkhikaaT18
namespace Slb
open Go Go.Proofs
set_option maxRecDepth 20000
section
variable {S1 : List HProp} {F : Fr} {α : Type} {e : TypeId} {z : Nat} {enc : α → List Value} {a : Option Addr} {c i : Nat} {xs : List α}
theorem Sat.slDrop {w : World} (hl : ∀ x, (enc x).length = z) (hi : i ≤ xs.length) (s : Sat (slA e z enc (.slice a xs.length c) xs :: S1) F w) : Sat (slA e z enc (.slice (slOff a c i z) (xs.length - i) (c - i)) (xs.drop i) :: S1) F w :=
  Sat.mono (S := slA e z enc (.slice a xs.length c) xs :: S1) (fun h g => by
    obtain ⟨h1, h2, d, rfl, g1, g2⟩ := g
    obtain ⟨h3, hle, g3⟩ := slA_drop hl hi g1
    have d3 := PH.disj_of_le hle d
    exact ⟨PH.union h3 h2, PH.union_le (PH.le.trans hle PH.le_union_left) (PH.le_union_right d), h3, h2, d3, rfl, g3, g2⟩) s
theorem J.slDrop {N : Nat} {G : Env} {S : List HProp} {Φ : Act → World → Prop} (i : Nat) (pk : Pick S (slA e z enc (.slice a xs.length c) xs) S1) (hl : ∀ x, (enc x).length = z) (hi : i ≤ xs.length) (j : J N G (slA e z enc (.slice (slOff a c i z) (xs.length - i) (c - i)) (xs.drop i) :: S1) F Φ) : J N G S F Φ :=
  j.conseq fun _ s => (s.perm pk.perm).slDrop hl hi
end
theorem not_take {L : List Due} {i : Nat} {x : Due} {s : ByteArray} (h : ∀ y ∈ L.take i, y.name ≠ s) (hi : L[i]? = some x) (hx : x.name ≠ s) : ∀ y ∈ L.take (i + 1), y.name ≠ s := fun y hy => by
  rw [take_succ_get hi] at hy
  rcases List.mem_append.1 hy with hy | hy
  · exact h y hy
  · rw [List.mem_singleton.1 hy]; exact hx
theorem has_none {L : List Due} {s : ByteArray} (h : ∀ y ∈ L, y.name ≠ s) : hasD L s = false := Bool.eq_false_iff.2 fun hh => by
  obtain ⟨d, hd, hn⟩ := hasD_iff.1 hh
  exact h d hd hn
theorem cut_del {L : List Due} {i : Nat} {x : Due} (hn : (L.map (·.name)).Nodup) (hi : L[i]? = some x) : ([] ++ (L.take i).drop 0) ++ (L.take L.length).drop (i + 1) = delD L x.name := by
  obtain ⟨h1, e1⟩ := List.getElem?_eq_some_iff.1 hi
  have e : L = L.take i ++ x :: L.drop (i + 1) := by rw [← e1, ← List.drop_eq_getElem_cons h1, List.take_append_drop]
  rw [List.take_length]
  show L.take i ++ L.drop (i + 1) = _
  have hn2 : ((L.take i ++ x :: L.drop (i + 1)).map (·.name)).Nodup := by rw [← e]; exact hn
  rw [List.map_append, List.map_cons, List.nodup_append] at hn2
  obtain ⟨_, h3, h4⟩ := hn2
  rw [List.nodup_cons] at h3
  have e2 : delD L x.name = delD (L.take i ++ x :: L.drop (i + 1)) x.name := by rw [← e]
  rw [e2]
  unfold delD
  rw [List.filter_append, List.filter_cons, if_neg (by simp)]
  rw [List.filter_eq_self.2, List.filter_eq_self.2]
  · intro d hd
    have : d.name ≠ x.name := fun hc => h3.1 (List.mem_map.2 ⟨d, hd, hc⟩)
    simpa using this
  · intro d hd
    have : d.name ≠ x.name := fun hc => h4 _ (List.mem_map.2 ⟨d, hd, rfl⟩) _ List.mem_cons_self hc
    simpa using this
theorem ins_eq {d : Due} : ∀ {L : List Due} {j : Nat}, j ≤ L.length → (∀ y ∈ L.take j, cmpDue y d < 0) → (∀ y ∈ L.drop j, cmpDue d y < 0) → L.take j ++ d :: L.drop j = insD d L
  | [], j, hj, _, _ => by simp [insD]
  | x :: L, 0, _, _, h2 => by
    unfold insD
    rw [if_pos (h2 x (by simp))]
    rfl
  | x :: L, j + 1, hj, h1, h2 => by
    unfold insD
    have hx := h1 x (by simp)
    have hn := (totD.neg x d).1 hx
    rw [if_neg (by omega)]
    show x :: (L.take j ++ d :: L.drop j) = _
    rw [ins_eq (by simpa using hj) (fun y hy => h1 y (by simp [hy])) (fun y hy => h2 y (by simpa using hy))]
theorem cut_ins {L : List Due} {j : Nat} (d : Due) : (([] ++ (L.take j).drop 0) ++ [d]) ++ (L.take L.length).drop j = L.take j ++ d :: L.drop j := by simp
theorem before_d {L : List Due} (hs : L.Pairwise fun a b => cmpDue a b < 0) {j : Nat} {x d : Due} (h0 : 0 < j) (hi : L[Int.toNat ((j : Int) - 1)]? = some x) (hx : ¬ cmpDue d x < 0) (hne : x ≠ d) : ∀ y ∈ L.take j, cmpDue y d < 0 := by
  have hxd : cmpDue x d < 0 := by
    have h1 : cmpDue d x ≠ 0 := fun h => hne ((totD.eq _ _).1 h).symm
    exact (totD.neg x d).2 (by omega)
  have hj : Int.toNat ((j : Int) - 1) = j - 1 := by omega
  rw [hj] at hi
  have hL : L.take j = L.take (j - 1) ++ [x] := by
    have h1 : L.take (j - 1 + 1) = _ := take_succ_get hi
    rwa [show j - 1 + 1 = j by omega] at h1
  intro y hy
  have hs2 := hs.sublist (List.take_sublist j L)
  rw [hL] at hy hs2
  rcases List.mem_append.1 hy with hy | hy
  · rw [List.pairwise_append] at hs2
    exact totD.tr _ _ _ (hs2.2.2 y hy x (by simp)) hxd
  · rw [List.mem_singleton.1 hy]; exact hxd
theorem behind_d {L : List Due} {j : Nat} {x d : Due} (h0 : 0 < j) (hi : L[Int.toNat ((j : Int) - 1)]? = some x) (hx : cmpDue d x < 0) (h : ∀ y ∈ L.drop j, cmpDue d y < 0) : ∀ y ∈ L.drop (j - 1), cmpDue d y < 0 := by
  have hj : Int.toNat ((j : Int) - 1) = j - 1 := by omega
  rw [hj] at hi
  obtain ⟨hlt, e⟩ := List.getElem?_eq_some_iff.1 hi
  intro y hy
  rw [List.drop_eq_getElem_cons hlt, show j - 1 + 1 = j by omega] at hy
  rcases List.mem_cons.1 hy with rfl | hy
  · rw [e]; exact hx
  · exact h y hy
theorem due_iff (x y : Due) : cmpDue x y < 0 ↔ (x.at_ < y.at_ ∨ (x.at_ = y.at_ ∧ cmpS x.name y.name < 0)) := by
  refine ⟨due_lt, fun h => ?_⟩
  unfold cmpDue orF cmpF
  rcases h with h | ⟨h1, h2⟩
  · rw [if_pos h]; simp
  · rw [if_neg (by omega)]
    unfold orF
    rw [if_pos (by omega)]
    exact h2

theorem rfind_spec (F : Fr) {b : Nat} {a : Option Addr} {c : Nat} {L : List Due} (hL : L.length ≤ 1000000) (s : ByteArray) : Spec Try.prog 26 #[fp b, .string s] [blk b (Ref04Queue.enc ⟨⟨a, L.length, c⟩⟩) 52, slA 40 2 Due.enc (.slice a L.length c) L] F (fun v S => S = [blk b (Ref04Queue.enc ⟨⟨a, L.length, c⟩⟩) 52, slA 40 2 Due.enc (.slice a L.length c) L] ∧ ∃ n : Int, v = .int .i64 n ∧ ((n = -1 ∧ hasD L s = false) ∨ ∃ (i : Nat) (x : Due), n = (i : Int) ∧ L[i]? = some x ∧ x.name = s)) := by
 refine Spec.intro (N := 26) (args := [fp b, .string s]) Try.func26 rfl rfl (by simp) ?_
 refine Run.seq fun k1 hk1 => ?_
 refine Run.region ?_
 show Sq _ _ _ [0] _ _ _ _
 refine J.slCase (v := .slice a L.length c) (xs := L) (by repeat constructor) (fun a1 c1 hv1 hh => ?_)
 cases hv1
 have hcle := hh.le
 refine Sq.quiet (i := 0) rfl (Want.none rfl) rfl (ltN rfl) (QP.assign rfl rfl).read ?_
 refine Sq.nil ?_
 refine hk1 _ _ ?_
 refine Run.seq fun k2 hk2 => ?_
 refine Run.seq fun k3 hk3 => ?_
 refine Run.region ?_
 show Sq _ _ _ [0] _ _ _ _
 refine Sq.quiet (i := 0) rfl (Want.none rfl) rfl (ltN rfl) (QP.assign rfl rfl).read ?_
 refine Sq.nil ?_
 refine hk3 _ _ ?_
 refine Run.block ?_
 refine Run.loop1 (fun (i : Nat) => i ≤ L.length ∧ ∀ y ∈ L.take i, y.name ≠ s) (fun i => .cons 0 (fp b) (.cons 1 (.string s) (.cons 5 (.int .i64 i) (.nil)))) (fun i => [blk b (Ref04Queue.enc ⟨⟨a, L.length, c⟩⟩) 52, slA 40 2 Due.enc (.slice a L.length c) L]) (fun i => L.length - i) (0) (⟨Nat.zero_le _, by simp⟩) ?_ ?_
 ·exact fun _ j => J.envJ (J.keep (.cons (by repeat constructor) (.cons (by repeat constructor) Takes.nil)) j) ⟨rfl, rfl, rfl, trivial⟩
 rintro i ⟨hile, hno⟩ kl4 hl4
 refine Run.seq fun k5 hk5 => ?_
 refine Run.seq fun k6 hk6 => ?_
 refine Run.region ?_
 show Sq _ _ _ [0, 1, 2, 3, 4, 5, 6] _ _ _ _
 refine Sq.quiet (i := 0) rfl (Want.none rfl) rfl (ltN rfl) (QP.move rfl rfl).read ?_
 refine Sq.quiet (i := 1) rfl (Want.none rfl) rfl (ltN rfl) (QP.move rfl rfl).read ?_
 refine Sq.quiet (i := 2) rfl (Want.none rfl) rfl (ltN rfl) (QP.nilCheck rfl rfl).read ?_
 refine Sq.quiet (i := 3) rfl (Want.none rfl) rfl (ltN rfl) (QP.fieldAddr rfl rfl f52_0).read ?_
 refine Sq.quiet (i := 4) rfl (Want.none rfl) rfl (ltN rfl) (QR.load1 (v := .slice _ L.length _) rfl rfl g44 (Ref04Queue.sub_l _)) ?_
 refine Sq.quiet (i := 5) rfl (Want.none rfl) rfl (ltN rfl) (QP.len rfl rfl rfl Try.underlying44).read ?_
 refine Sq.quiet (i := 6) rfl (Want.none rfl) rfl (ltN rfl) (QP.lss rfl rfl rfl).read ?_
 refine J.caseD (fun c12 => ?_) (fun c12 => ?_)
 ·skip
  refine Sq.nil ?_
  refine hk6 _ _ ?_
  refine Run.cond_t rfl ?_
  refine Run.skip ?_
  refine hk5 _ _ ?_
  refine Run.seq fun k7 hk7 => ?_
  refine Run.block ?_
  refine Run.seq fun k8 hk8 => ?_
  refine Run.region ?_
  show Sq _ _ _ [0, 1, 2, 3, 4, 5, 6, 7, 8, 9] _ _ _ _
  have hlt : i < L.length := by omega
  obtain ⟨x, hi⟩ : ∃ x, L[i]? = some x := ⟨_, List.getElem?_eq_getElem hlt⟩
  obtain ⟨b0, o0, rfl⟩ := hh.get (by omega)
  refine Sq.quiet (i := 0) rfl (Want.none rfl) rfl (ltN rfl) (QP.move rfl rfl).read ?_
  refine Sq.quiet (i := 1) rfl (Want.none rfl) rfl (ltN rfl) (QP.nilCheck rfl rfl).read ?_
  refine Sq.quiet (i := 2) rfl (Want.none rfl) rfl (ltN rfl) (QP.fieldAddr rfl rfl f52_0).read ?_
  refine Sq.quiet (i := 3) rfl (Want.none rfl) rfl (ltN rfl) (QR.load1 (v := .slice _ L.length _) rfl rfl g44 (Ref04Queue.sub_l _)) ?_
  refine Sq.quiet (i := 4) rfl (Want.none rfl) rfl (ltN rfl) (QP.move rfl rfl).read ?_
  refine Sq.quiet (i := 5) rfl (Want.none rfl) rfl (ltN rfl) (QP.indexAddr rfl rfl rfl Try.underlying44 z40 (by first | omega | (simp <;> omega)) (by first | omega | (simp <;> omega))).read ?_
  refine Sq.quiet (i := 6) rfl (Want.none rfl) rfl (ltN rfl) (QP.fieldAddr rfl rfl f40_0).read ?_
  refine Sq.quiet (i := 7) rfl (Want.none rfl) rfl (ltN rfl) (QR.loadSlF1 rfl rfl g9 Due.enc_len (SlAt.own Due.enc_len (by repeat constructor)) hi (Due.sub_name _)) ?_
  refine Sq.quiet (i := 8) rfl (Want.none rfl) rfl (ltN rfl) (QP.move rfl rfl).read ?_
  refine Sq.quiet (i := 9) rfl (Want.none rfl) rfl (ltN rfl) (QP.eqS rfl rfl rfl).read ?_
  refine J.caseD (fun c24 => ?_) (fun c24 => ?_)
  ·skip
   refine Sq.nil ?_
   refine hk8 _ _ ?_
   refine Run.cond_t rfl ?_
   refine Run.seq fun k9 hk9 => ?_
   refine Run.region ?_
   show Sq _ _ _ [0, 1] _ _ _ _
   refine Sq.quiet (i := 0) rfl (Want.none rfl) rfl (ltN rfl) (QP.move rfl rfl).read ?_
   refine Sq.quiet (i := 1) rfl (Want.none rfl) rfl (ltN rfl) (QP.assign rfl rfl).read ?_
   refine Sq.nil ?_
   refine hk9 _ _ ?_
   refine Run.ret ?_
   exact J.ends (res_tmp rfl rfl) (.cons (by repeat constructor) (.cons (by repeat constructor) Takes.nil)) ⟨rfl, _, rfl, .inr ⟨i, x, rfl, hi, str_eq.1 c24⟩⟩
  ·skip
   refine Sq.nil ?_
   refine hk8 _ _ ?_
   refine Run.cond_f rfl ?_
   refine Run.skip ?_
   refine hk7 _ _ ?_
   refine Run.region ?_
   show Sq _ _ _ [0, 1, 2] _ _ _ _
   refine Sq.quiet (i := 0) rfl (Want.none rfl) rfl (ltN rfl) (QP.move rfl rfl).read ?_
   refine Sq.quiet (i := 1) rfl (Want.none rfl) rfl (ltN rfl) (QP.add64 rfl rfl rfl (by first | omega | (simp <;> omega)) (by first | omega | (simp <;> omega))).read ?_
   refine Sq.quiet (i := 2) rfl (Want.none rfl) rfl (ltN rfl) (QP.assign rfl rfl).read ?_
   refine Sq.nil ?_
   exact J.envJ (J.keep (.cons (by repeat constructor) (.cons (by repeat constructor) Takes.nil)) (hl4 (i + 1) (⟨by omega, not_take hno hi (fun h => c24 (str_eq.2 h))⟩) (by omega))) ⟨rfl, rfl, rfl, trivial⟩
 ·skip
  refine Sq.nil ?_
  refine hk6 _ _ ?_
  refine Run.cond_f rfl ?_
  refine Run.exit rfl ?_
  refine hk2 _ _ ?_
  refine Run.seq fun k10 hk10 => ?_
  refine Run.region ?_
  show Sq _ _ _ [0] _ _ _ _
  refine Sq.quiet (i := 0) rfl (Want.none rfl) rfl (ltN rfl) (QP.assign rfl rfl).read ?_
  refine Sq.nil ?_
  refine hk10 _ _ ?_
  refine Run.ret ?_
  exact J.ends (res_tmp rfl rfl) (.cons (by repeat constructor) (.cons (by repeat constructor) Takes.nil)) ⟨rfl, _, rfl, .inl ⟨rfl, by rw [List.take_of_length_le (by omega)] at hno; exact has_none hno⟩⟩

theorem ahead_spec (F : Fr) (x y : Due) : Spec Try.prog 32 #[.agg (Due.enc x).toArray, .agg (Due.enc y).toArray] [] F (fun v S => v = .bool (decide (cmpDue x y < 0)) ∧ S = []) := by
 refine Spec.intro (N := 24) (args := [.agg (Due.enc x).toArray, .agg (Due.enc y).toArray]) Try.func32 rfl rfl (by simp) ?_
 refine Run.seq fun k1 hk1 => ?_
 refine Run.region ?_
 show Sq _ _ _ [0, 1, 2] _ _ _ _
 refine Sq.eff (i := 0) rfl (Want.none rfl) rfl (ltN rfl) (EF.boxA rfl rfl) ?_
 rintro _ _ ⟨b2, rfl, rfl⟩
 refine Sq.eff (i := 1) rfl (Want.none rfl) rfl (ltN rfl) (EF.boxA rfl rfl) ?_
 rintro _ _ ⟨b3, rfl, rfl⟩
 refine Sq.quiet (i := 2) rfl (Want.none rfl) rfl (ltN rfl) (QP.assign rfl rfl).read ?_
 refine Sq.nil ?_
 refine hk1 _ _ ?_
 refine Run.seq fun k2 hk2 => ?_
 refine Run.region ?_
 show Sq _ _ _ [0, 1, 2, 3, 4, 5, 6, 7, 8, 9, 10, 11, 12, 13, 14, 15, 16, 17, 18, 19] _ _ _ _
 refine Sq.quiet (i := 0) rfl (Want.none rfl) rfl (ltN rfl) (QP.fieldAddr rfl rfl f40_1).read ?_
 refine Sq.quiet (i := 1) rfl (Want.none rfl) rfl (ltN rfl) (QR.load1 rfl rfl g3 (Due.sub_at_ _)) ?_
 refine Sq.quiet (i := 2) rfl (Want.none rfl) rfl (ltN rfl) (QP.fieldAddr rfl rfl f40_1).read ?_
 refine Sq.quiet (i := 3) rfl (Want.none rfl) rfl (ltN rfl) (QR.load1 rfl rfl g3 (Due.sub_at_ _)) ?_
 refine Sq.quiet (i := 4) rfl (Want.none rfl) rfl (ltN rfl) (QP.lss rfl rfl rfl).read ?_
 refine J.caseD (fun c9 => ?_) (fun c9 => ?_)
 ·skip
  refine Sq.quiet (i := 5) rfl (Want.none rfl) rfl (ltN rfl) (QP.move rfl rfl).read ?_
  refine Sq.skip (i := 6) rfl (Want.no rfl rfl rfl rfl) rfl (ltN rfl) ?_
  refine Sq.skip (i := 7) rfl (Want.no rfl rfl rfl rfl) rfl (ltN rfl) ?_
  refine Sq.skip (i := 8) rfl (Want.no rfl rfl rfl rfl) rfl (ltN rfl) ?_
  refine Sq.skip (i := 9) rfl (Want.no rfl rfl rfl rfl) rfl (ltN rfl) ?_
  refine Sq.skip (i := 10) rfl (Want.no rfl rfl rfl rfl) rfl (ltN rfl) ?_
  refine Sq.skip (i := 11) rfl (Want.no rfl rfl rfl rfl) rfl (ltN rfl) ?_
  refine Sq.skip (i := 12) rfl (Want.undef rfl rfl rfl) rfl (ltN rfl) ?_
  refine Sq.skip (i := 13) rfl (Want.undef rfl rfl rfl) rfl (ltN rfl) ?_
  refine Sq.skip (i := 14) rfl (Want.undef rfl rfl rfl) rfl (ltN rfl) ?_
  refine Sq.skip (i := 15) rfl (Want.undef rfl rfl rfl) rfl (ltN rfl) ?_
  refine Sq.skip (i := 16) rfl (Want.undef rfl rfl rfl) rfl (ltN rfl) ?_
  refine Sq.skip (i := 17) rfl (Want.no rfl rfl rfl rfl) rfl (ltN rfl) ?_
  refine Sq.quiet (i := 18) rfl (Want.none rfl) rfl (ltN rfl) (QP.pick_t rfl rfl rfl).read ?_
  refine Sq.quiet (i := 19) rfl (Want.none rfl) rfl (ltN rfl) (QP.assign rfl rfl).read ?_
  refine Sq.nil ?_
  refine hk2 _ _ ?_
  refine Run.ret ?_
  exact J.ends (res_tmp rfl rfl) Takes.nil ⟨congrArg Value.bool (by exact (decide_eq_true ((due_iff x y).2 (.inl c9))).symm), rfl⟩
 ·skip
  refine Sq.quiet (i := 5) rfl (Want.none rfl) rfl (ltN rfl) (QP.move rfl rfl).read ?_
  refine Sq.quiet (i := 6) rfl (Want.yes rfl rfl rfl rfl) rfl (ltN rfl) (QP.fieldAddr rfl rfl f40_1).read ?_
  refine Sq.quiet (i := 7) rfl (Want.yes rfl rfl rfl rfl) rfl (ltN rfl) (QR.load1 rfl rfl g3 (Due.sub_at_ _)) ?_
  refine Sq.quiet (i := 8) rfl (Want.yes rfl rfl rfl rfl) rfl (ltN rfl) (QP.fieldAddr rfl rfl f40_1).read ?_
  refine Sq.quiet (i := 9) rfl (Want.yes rfl rfl rfl rfl) rfl (ltN rfl) (QR.load1 rfl rfl g3 (Due.sub_at_ _)) ?_
  refine Sq.quiet (i := 10) rfl (Want.yes rfl rfl rfl rfl) rfl (ltN rfl) (QP.eql rfl rfl rfl).read ?_
  refine J.caseD (fun c15 => ?_) (fun c15 => ?_)
  ·skip
   refine Sq.quiet (i := 11) rfl (Want.yes rfl rfl rfl rfl) rfl (ltN rfl) (QP.move rfl rfl).read ?_
   refine Sq.quiet (i := 12) rfl (Want.yes rfl rfl rfl rfl) rfl (ltN rfl) (QP.fieldAddr rfl rfl f40_0).read ?_
   refine Sq.quiet (i := 13) rfl (Want.yes rfl rfl rfl rfl) rfl (ltN rfl) (QR.load1 rfl rfl g9 (Due.sub_name _)) ?_
   refine Sq.quiet (i := 14) rfl (Want.yes rfl rfl rfl rfl) rfl (ltN rfl) (QP.fieldAddr rfl rfl f40_0).read ?_
   refine Sq.quiet (i := 15) rfl (Want.yes rfl rfl rfl rfl) rfl (ltN rfl) (QR.load1 rfl rfl g9 (Due.sub_name _)) ?_
   refine Sq.quiet (i := 16) rfl (Want.yes rfl rfl rfl rfl) rfl (ltN rfl) (QP.lssS rfl rfl rfl).read ?_
   refine Sq.quiet (i := 17) rfl (Want.yes rfl rfl rfl rfl) rfl (ltN rfl) (QP.pick_t rfl rfl rfl).read ?_
   refine Sq.quiet (i := 18) rfl (Want.none rfl) rfl (ltN rfl) (QP.pick_f rfl rfl rfl).read ?_
   refine Sq.quiet (i := 19) rfl (Want.none rfl) rfl (ltN rfl) (QP.assign rfl rfl).read ?_
   refine Sq.nil ?_
   refine hk2 _ _ ?_
   refine Run.ret ?_
   exact J.ends (res_tmp rfl rfl) Takes.nil ⟨congrArg Value.bool (by rw [decide_eq_decide]; exact ⟨fun h => (due_iff x y).2 (.inr ⟨c15, h⟩), fun h => by rcases (due_iff x y).1 h with h | ⟨_, h⟩; exact absurd h c9; exact h⟩), rfl⟩
  ·skip
   refine Sq.quiet (i := 11) rfl (Want.yes rfl rfl rfl rfl) rfl (ltN rfl) (QP.move rfl rfl).read ?_
   refine Sq.skip (i := 12) rfl (Want.no rfl rfl rfl rfl) rfl (ltN rfl) ?_
   refine Sq.skip (i := 13) rfl (Want.no rfl rfl rfl rfl) rfl (ltN rfl) ?_
   refine Sq.skip (i := 14) rfl (Want.no rfl rfl rfl rfl) rfl (ltN rfl) ?_
   refine Sq.skip (i := 15) rfl (Want.no rfl rfl rfl rfl) rfl (ltN rfl) ?_
   refine Sq.skip (i := 16) rfl (Want.no rfl rfl rfl rfl) rfl (ltN rfl) ?_
   refine Sq.quiet (i := 17) rfl (Want.yes rfl rfl rfl rfl) rfl (ltN rfl) (QP.pick_f rfl rfl rfl).read ?_
   refine Sq.quiet (i := 18) rfl (Want.none rfl) rfl (ltN rfl) (QP.pick_f rfl rfl rfl).read ?_
   refine Sq.quiet (i := 19) rfl (Want.none rfl) rfl (ltN rfl) (QP.assign rfl rfl).read ?_
   refine Sq.nil ?_
   refine hk2 _ _ ?_
   refine Run.ret ?_
   exact J.ends (res_tmp rfl rfl) Takes.nil ⟨congrArg Value.bool (by exact (decide_eq_false (fun h => by rcases (due_iff x y).1 h with h | ⟨h, _⟩ <;> omega)).symm), rfl⟩

theorem rcancel_spec (F : Fr) {b : Nat} {a : Option Addr} {c : Nat} {L : List Due} (hL : L.length ≤ 1000000) (hn : (L.map (·.name)).Nodup) (s : ByteArray) : Spec Try.prog 23 #[fp b, .string s] [blk b (Ref04Queue.enc ⟨⟨a, L.length, c⟩⟩) 52, slA 40 2 Due.enc (.slice a L.length c) L] F (fun v S => ∃ a2 c2, v = .bool (hasD L s) ∧ S = [blk b (Ref04Queue.enc ⟨⟨a2, (delD L s).length, c2⟩⟩) 52, slA 40 2 Due.enc (.slice a2 (delD L s).length c2) (delD L s)]) := by
 refine Spec.intro (N := 30) (args := [fp b, .string s]) Try.func23 rfl rfl (by simp) ?_
 refine Run.seq fun k1 hk1 => ?_
 refine Run.region ?_
 show Sq _ _ _ [0] _ _ _ _
 refine J.slCase (v := .slice a L.length c) (xs := L) (by repeat constructor) (fun a1 c1 hv1 hh => ?_)
 cases hv1
 have hcle := hh.le
 refine Sq.quiet (i := 0) rfl (Want.none rfl) rfl (ltN rfl) (QP.assign rfl rfl).read ?_
 refine Sq.nil ?_
 refine hk1 _ _ ?_
 refine Run.seq fun k2 hk2 => ?_
 refine Run.region ?_
 show Sq _ _ _ [0, 1, 2, 3] _ _ _ _
 refine Sq.quiet (i := 0) rfl (Want.none rfl) rfl (ltN rfl) (QP.move rfl rfl).read ?_
 refine Sq.quiet (i := 1) rfl (Want.none rfl) rfl (ltN rfl) (QP.move rfl rfl).read ?_
 refine Sq.eff (i := 2) rfl (Want.none rfl) rfl (ltN rfl) (EF.call rfl ce26 rfl (.cons (by repeat constructor) (.cons (by repeat constructor) Takes.nil)) (fun F' hle hr => rfind_spec F' hL s)) ?_
 rintro _ _ ⟨_, ⟨rfl, n8, rfl, hf8⟩, rfl⟩
 refine J.app ?_
 refine Sq.quiet (i := 3) rfl (Want.none rfl) rfl (ltN rfl) (QP.assign rfl rfl).read ?_
 refine Sq.nil ?_
 refine hk2 _ _ ?_
 refine Run.seq fun k3 hk3 => ?_
 refine Run.seq fun k4 hk4 => ?_
 refine Run.region ?_
 show Sq _ _ _ [0, 1] _ _ _ _
 refine Sq.quiet (i := 0) rfl (Want.none rfl) rfl (ltN rfl) (QP.move rfl rfl).read ?_
 refine Sq.quiet (i := 1) rfl (Want.none rfl) rfl (ltN rfl) (QP.lss rfl rfl rfl).read ?_
 refine J.caseD (fun c10 => ?_) (fun c10 => ?_)
 ·skip
  refine Sq.nil ?_
  refine hk4 _ _ ?_
  refine Run.cond_t rfl ?_
  refine Run.seq fun k5 hk5 => ?_
  refine Run.region ?_
  show Sq _ _ _ [0] _ _ _ _
  refine Sq.quiet (i := 0) rfl (Want.none rfl) rfl (ltN rfl) (QP.assign rfl rfl).read ?_
  refine Sq.nil ?_
  refine hk5 _ _ ?_
  refine Run.ret ?_
  have hno : hasD L s = false := by rcases hf8 with ⟨_, h⟩ | ⟨i, x, h, _, _⟩; exact h; omega
  rw [hno, delD_none hno]
  exact J.ends (res_tmp rfl rfl) (.cons (by repeat constructor) (.cons (by repeat constructor) Takes.nil)) ⟨_, _, rfl, rfl⟩
 ·skip
  refine Sq.nil ?_
  refine hk4 _ _ ?_
  refine Run.cond_f rfl ?_
  refine Run.skip ?_
  refine hk3 _ _ ?_
  refine Run.seq fun k6 hk6 => ?_
  refine Run.regionD (M := [0, 0, 0, 4, 12, 28, 0, 124, 254, 0, 512, 1536, 3584, 0, 8192, 32256, 65534, 131071, 262143, 524287]) (q := 458493) (r := 4128) (by kernel_rfl) ?_
  obtain ⟨i, x, rfl, hi, hnm⟩ : ∃ (i : Nat) (x : Due), n8 = (i : Int) ∧ L[i]? = some x ∧ x.name = s := by
    rcases hf8 with ⟨h, _⟩ | h
    · omega
    · exact h
  have hlt : i < L.length := (List.getElem?_eq_some_iff.1 hi).1
  have hcd : ([] ++ (L.take i).drop 0) ++ (L.take L.length).drop (i + 1) = delD L s := by rw [← hnm]; exact cut_del hn hi
  obtain ⟨b0, o0, rfl⟩ := hh.get (by omega)
  refine Dw.pure (i := 0) rfl (by kernel_rfl) (Want.none rfl) rfl (ltN rfl) (QP.move rfl rfl) ?_
  refine Dw.pure (i := 2) rfl (by kernel_rfl) (Want.none rfl) rfl (ltN rfl) (QP.move rfl rfl) ?_
  refine Dw.pure (i := 3) rfl (by kernel_rfl) (Want.none rfl) rfl (ltN rfl) (QP.nilCheck rfl rfl) ?_
  refine Dw.pure (i := 4) rfl (by kernel_rfl) (Want.none rfl) rfl (ltN rfl) (QP.fieldAddr rfl rfl f52_0) ?_
  refine Dw.read (i := 5) rfl (by kernel_rfl) (Want.none rfl) rfl (ltN rfl) (QR.load1 (v := .slice _ L.length _) rfl rfl g44 (Ref04Queue.sub_l _)) ?_
  refine Dw.pure (i := 6) rfl (by kernel_rfl) (Want.none rfl) rfl (ltN rfl) (QP.move rfl rfl) ?_
  refine Dw.pure (i := 7) rfl (by kernel_rfl) (Want.none rfl) rfl (ltN rfl) (QP.sliceHi rfl rfl rfl Try.underlying44 z40 (by first | omega | (simp <;> omega)) (by first | omega | (simp <;> omega))) ?_
  refine Dw.pure (i := 9) rfl (by kernel_rfl) (Want.none rfl) rfl (ltN rfl) (QP.move rfl rfl) ?_
  refine Dw.pure (i := 10) rfl (by kernel_rfl) (Want.none rfl) rfl (ltN rfl) (QP.nilCheck rfl rfl) ?_
  refine Dw.pure (i := 11) rfl (by kernel_rfl) (Want.none rfl) rfl (ltN rfl) (QP.fieldAddr rfl rfl f52_0) ?_
  refine Dw.read (i := 12) rfl (by kernel_rfl) (Want.none rfl) rfl (ltN rfl) (QR.load1 (v := .slice _ L.length _) rfl rfl g44 (Ref04Queue.sub_l _)) ?_
  refine Dw.pure (i := 13) rfl (by kernel_rfl) (Want.none rfl) rfl (ltN rfl) (QP.move rfl rfl) ?_
  refine Dw.pure (i := 14) rfl (by kernel_rfl) (Want.none rfl) rfl (ltN rfl) (QP.add64 rfl rfl rfl (by first | omega | (simp <;> omega)) (by first | omega | (simp <;> omega))) ?_
  refine Dw.pure (i := 15) rfl (by kernel_rfl) (Want.none rfl) rfl (ltN rfl) (QP.sliceLo rfl rfl rfl Try.underlying44 z40 (by first | omega | (simp <;> omega)) (by first | omega | (simp <;> omega))) ?_
  refine Dw.eff (i := 1) (by kernel_rfl) (by kernel_rfl) ?_
  refine One.mk (o := _) (l := [12, 5]) rfl (by kernel_rfl) (Want.none rfl) rfl (ltN rfl) (EF.buildSlice0 (enc := Due.enc) rfl Try.underlying44 z40 zero40 (by simp [Value.cells, Due.enc_len]) (by decide)) (by kernel_rfl) ?_
  rintro _ _ ⟨b12, rfl, rfl⟩
  refine ⟨?_, ?_⟩
  ·rw [List.forall_mem_cons, List.forall_mem_cons]
   refine ⟨?_, ?_, fun _ h => (by cases h)⟩
   ·exact Look.mk rfl rfl rfl (QR.load1 (v := .slice _ L.length _) rfl rfl g44 (Ref04Queue.sub_l _))
   ·exact Look.mk rfl rfl rfl (QR.load1 (v := .slice _ L.length _) rfl rfl g44 (Ref04Queue.sub_l _))
  refine ?_
  refine Dw.eff (i := 8) (by kernel_rfl) (by kernel_rfl) ?_
  refine One.mk (o := _) (l := [12]) rfl (by kernel_rfl) (Want.none rfl) rfl (ltN rfl) (EF.append (xs := []) (ys := ((L.take i).drop 0)) el40 Due.enc_len Due.enc_cell rfl rfl rfl Try.underlying44 Try.underlying44 rfl rfl (by repeat constructor) (RowsAt.cutOwn (i := 0) (j := i) Due.enc_len hh (by repeat constructor) (by omega) (by omega)) (by first | omega | (simp <;> omega))) (by kernel_rfl) ?_
  rintro sl19 _ rfl
  refine ⟨?_, ?_⟩
  ·rw [List.forall_mem_cons]
   refine ⟨?_, fun _ h => (by cases h)⟩
   ·exact Look.mk rfl rfl rfl (QR.load1 (v := .slice _ L.length _) rfl rfl g44 (Ref04Queue.sub_l _))
  refine ?_
  refine Dw.slCase (v := sl19) (by repeat constructor) (fun a19 c19 hv19 hh19 => ?_)
  subst hv19
  refine Dw.eff (i := 16) (by kernel_rfl) (by kernel_rfl) ?_
  refine One.mk (o := _) (l := []) rfl (by kernel_rfl) (Want.none rfl) rfl (ltN rfl) (EF.append (xs := _) (ys := ((L.take L.length).drop (i + 1))) el40 Due.enc_len Due.enc_cell rfl rfl rfl Try.underlying44 Try.underlying44 rfl rfl (by repeat constructor) (RowsAt.cutOwn (i := (i + 1)) (j := L.length) Due.enc_len hh (by repeat constructor) (by omega) (by omega)) (by first | omega | (simp <;> omega))) (by kernel_rfl) ?_
  rintro sl27 _ rfl
  refine ⟨fun _ h => (by cases h), ?_⟩
  refine Dw.slCase (v := sl27) (by repeat constructor) (fun a27 c27 hv27 hh27 => ?_)
  subst hv27
  refine Dw.pure (i := 17) rfl (by kernel_rfl) (Want.none rfl) rfl (ltN rfl) (QP.nilCheck rfl rfl) ?_
  refine Dw.pure (i := 18) rfl (by kernel_rfl) (Want.none rfl) rfl (ltN rfl) (QP.fieldAddr rfl rfl f52_0) ?_
  refine Dw.eff (i := 19) (by kernel_rfl) (by kernel_rfl) ?_
  refine One.act (o := _) (l := []) rfl (by kernel_rfl) (Want.none rfl) rfl (EF.store rfl rfl rfl z44 (Ref04Queue.set_l _ ⟨a27, _, c27⟩) (cell_one rfl)) (by kernel_rfl) ?_
  rintro _ _ rfl
  refine ⟨fun _ h => (by cases h), ?_⟩
  refine Dw.nil (by kernel_rfl) ?_
  refine hk6 _ _ ?_
  refine Run.seq fun k7 hk7 => ?_
  refine Run.region ?_
  show Sq _ _ _ [0] _ _ _ _
  refine Sq.quiet (i := 0) rfl (Want.none rfl) rfl (ltN rfl) (QP.assign rfl rfl).read ?_
  refine Sq.nil ?_
  refine hk7 _ _ ?_
  refine Run.ret ?_
  rw [show hasD L s = true by rw [← hnm]; exact has_of (List.mem_of_getElem? hi), ← hcd]
  exact J.ends (res_tmp rfl rfl) (.cons (by repeat constructor) (.cons (by repeat constructor) Takes.nil)) ⟨_, _, rfl, rfl⟩

theorem rpop_nil (F : Fr) {b : Nat} {a : Option Addr} {c : Nat} (now : Int) : Spec Try.prog 24 #[fp b, .int .i64 now] [blk b (Ref04Queue.enc ⟨⟨a, ([] : List Due).length, c⟩⟩) 52, slA 40 2 Due.enc (.slice a ([] : List Due).length c) ([] : List Due)] F (fun v S => v = .tuple #[.agg (Due.enc Due.zero).toArray, .bool false] ∧ S = [blk b (Ref04Queue.enc ⟨⟨a, ([] : List Due).length, c⟩⟩) 52, slA 40 2 Due.enc (.slice a ([] : List Due).length c) ([] : List Due)]) := by
 refine Spec.intro (N := 40) (args := [fp b, .int .i64 now]) Try.func24 rfl rfl (by simp) ?_
 refine Run.seq fun k1 hk1 => ?_
 refine Run.region ?_
 show Sq _ _ _ [0, 1] _ _ _ _
 refine Sq.eff (i := 0) rfl (Want.none rfl) rfl (ltN rfl) (EF.allocA (l := Due.enc Due.zero) rfl zero40) ?_
 rintro _ _ ⟨b4, rfl, rfl⟩
 refine Sq.quiet (i := 1) rfl (Want.none rfl) rfl (ltN rfl) (QP.assign rfl rfl).read ?_
 refine Sq.nil ?_
 refine hk1 _ _ ?_
 refine Run.seq fun k2 hk2 => ?_
 refine Run.seq fun k3 hk3 => ?_
 refine Run.region ?_
 show Sq _ _ _ [0, 1, 2, 3, 4, 5, 6, 7, 8, 9, 10, 11, 12, 13, 14, 15, 16] _ _ _ _
 refine Sq.quiet (i := 0) rfl (Want.none rfl) rfl (ltN rfl) (QP.move rfl rfl).read ?_
 refine Sq.quiet (i := 1) rfl (Want.none rfl) rfl (ltN rfl) (QP.nilCheck rfl rfl).read ?_
 refine Sq.quiet (i := 2) rfl (Want.none rfl) rfl (ltN rfl) (QP.fieldAddr rfl rfl f52_0).read ?_
 refine Sq.quiet (i := 3) rfl (Want.none rfl) rfl (ltN rfl) (QR.load1 (v := .slice _ ([] : List Due).length _) rfl rfl g44 (Ref04Queue.sub_l _)) ?_
 refine Sq.quiet (i := 4) rfl (Want.none rfl) rfl (ltN rfl) (QP.len rfl rfl rfl Try.underlying44).read ?_
 refine Sq.quiet (i := 5) rfl (Want.none rfl) rfl (ltN rfl) (QP.eql rfl rfl rfl).read ?_
 refine J.decT (rfl) ?_
 refine Sq.quiet (i := 6) rfl (Want.none rfl) rfl (ltN rfl) (QP.move rfl rfl).read ?_
 refine Sq.skip (i := 7) rfl (Want.no rfl rfl rfl rfl) rfl (ltN rfl) ?_
 refine Sq.skip (i := 8) rfl (Want.no rfl rfl rfl rfl) rfl (ltN rfl) ?_
 refine Sq.skip (i := 9) rfl (Want.no rfl rfl rfl rfl) rfl (ltN rfl) ?_
 refine Sq.skip (i := 10) rfl (Want.no rfl rfl rfl rfl) rfl (ltN rfl) ?_
 refine Sq.skip (i := 11) rfl (Want.no rfl rfl rfl rfl) rfl (ltN rfl) ?_
 refine Sq.skip (i := 12) rfl (Want.no rfl rfl rfl rfl) rfl (ltN rfl) ?_
 refine Sq.skip (i := 13) rfl (Want.no rfl rfl rfl rfl) rfl (ltN rfl) ?_
 refine Sq.skip (i := 14) rfl (Want.no rfl rfl rfl rfl) rfl (ltN rfl) ?_
 refine Sq.skip (i := 15) rfl (Want.no rfl rfl rfl rfl) rfl (ltN rfl) ?_
 refine Sq.quiet (i := 16) rfl (Want.none rfl) rfl (ltN rfl) (QP.pick_t rfl rfl rfl).read ?_
 refine Sq.nil ?_
 refine hk3 _ _ ?_
 refine Run.cond_t rfl ?_
 refine Run.seq fun k4 hk4 => ?_
 refine Run.region ?_
 show Sq _ _ _ [0, 1, 2] _ _ _ _
 refine Sq.quiet (i := 0) rfl (Want.none rfl) rfl (ltN rfl) (QP.build (l := Due.enc Due.zero) rfl st40 rfl (by exact trivial) rfl).read ?_
 refine Sq.act (i := 1) rfl (Want.none rfl) rfl (EF.storeA rfl rfl rfl z40 (SetL.all (Due.enc_len _) (Due.enc_len _)) (Due.enc_cell _)) ?_
 rintro _ _ rfl
 refine Sq.quiet (i := 2) rfl (Want.none rfl) rfl (ltN rfl) (QP.assign rfl rfl).read ?_
 refine Sq.nil ?_
 refine hk4 _ _ ?_
 refine Run.ret ?_
 exact J.ends (res_cell2 rfl rfl g40 (Due.enc_sub _) rfl) (.cons (by repeat constructor) (.cons (by repeat constructor) Takes.nil)) ⟨rfl, rfl⟩

theorem rpop_cons (F : Fr) {b : Nat} {a : Option Addr} {c : Nat} (d : Due) (L2 : List Due) (hL : (d :: L2).length ≤ 1000000) (now : Int) : Spec Try.prog 24 #[fp b, .int .i64 now] [blk b (Ref04Queue.enc ⟨⟨a, (d :: L2).length, c⟩⟩) 52, slA 40 2 Due.enc (.slice a (d :: L2).length c) (d :: L2)] F (fun v S => ∃ a2 c2, v = .tuple #[.agg (Due.enc (popD (d :: L2) now).1).toArray, .bool (popD (d :: L2) now).2.1] ∧ S = [blk b (Ref04Queue.enc ⟨⟨a2, (popD (d :: L2) now).2.2.length, c2⟩⟩) 52, slA 40 2 Due.enc (.slice a2 (popD (d :: L2) now).2.2.length c2) (popD (d :: L2) now).2.2]) := by
 refine Spec.intro (N := 40) (args := [fp b, .int .i64 now]) Try.func24 rfl rfl (by simp) ?_
 refine Run.seq fun k1 hk1 => ?_
 refine Run.region ?_
 show Sq _ _ _ [0, 1] _ _ _ _
 refine J.slCase (v := .slice a (d :: L2).length c) (xs := d :: L2) (by repeat constructor) (fun a1 c1 hv1 hh => ?_)
 cases hv1
 have hcle := hh.le
 obtain ⟨b0, o0, rfl⟩ := hh.get (by simp)
 refine Sq.eff (i := 0) rfl (Want.none rfl) rfl (ltN rfl) (EF.allocA (l := Due.enc Due.zero) rfl zero40) ?_
 rintro _ _ ⟨b4, rfl, rfl⟩
 refine Sq.quiet (i := 1) rfl (Want.none rfl) rfl (ltN rfl) (QP.assign rfl rfl).read ?_
 refine Sq.nil ?_
 refine hk1 _ _ ?_
 refine Run.seq fun k2 hk2 => ?_
 refine Run.seq fun k3 hk3 => ?_
 refine Run.region ?_
 show Sq _ _ _ [0, 1, 2, 3, 4, 5, 6, 7, 8, 9, 10, 11, 12, 13, 14, 15, 16] _ _ _ _
 refine Sq.quiet (i := 0) rfl (Want.none rfl) rfl (ltN rfl) (QP.move rfl rfl).read ?_
 refine Sq.quiet (i := 1) rfl (Want.none rfl) rfl (ltN rfl) (QP.nilCheck rfl rfl).read ?_
 refine Sq.quiet (i := 2) rfl (Want.none rfl) rfl (ltN rfl) (QP.fieldAddr rfl rfl f52_0).read ?_
 refine Sq.quiet (i := 3) rfl (Want.none rfl) rfl (ltN rfl) (QR.load1 (v := .slice _ (d :: L2).length _) rfl rfl g44 (Ref04Queue.sub_l _)) ?_
 refine Sq.quiet (i := 4) rfl (Want.none rfl) rfl (ltN rfl) (QP.len rfl rfl rfl Try.underlying44).read ?_
 refine Sq.quiet (i := 5) rfl (Want.none rfl) rfl (ltN rfl) (QP.eql rfl rfl rfl).read ?_
 refine J.decF (by simp; omega) ?_
 refine Sq.quiet (i := 6) rfl (Want.none rfl) rfl (ltN rfl) (QP.move rfl rfl).read ?_
 refine Sq.quiet (i := 7) rfl (Want.yes rfl rfl rfl rfl) rfl (ltN rfl) (QP.move rfl rfl).read ?_
 refine Sq.quiet (i := 8) rfl (Want.yes rfl rfl rfl rfl) rfl (ltN rfl) (QP.nilCheck rfl rfl).read ?_
 refine Sq.quiet (i := 9) rfl (Want.yes rfl rfl rfl rfl) rfl (ltN rfl) (QP.fieldAddr rfl rfl f52_0).read ?_
 refine Sq.quiet (i := 10) rfl (Want.yes rfl rfl rfl rfl) rfl (ltN rfl) (QR.load1 (v := .slice _ (d :: L2).length _) rfl rfl g44 (Ref04Queue.sub_l _)) ?_
 refine Sq.quiet (i := 11) rfl (Want.yes rfl rfl rfl rfl) rfl (ltN rfl) (QP.indexAddr rfl rfl rfl Try.underlying44 z40 (by first | omega | (simp <;> omega)) (by first | omega | (simp <;> omega))).read ?_
 refine Sq.quiet (i := 12) rfl (Want.yes rfl rfl rfl rfl) rfl (ltN rfl) (QP.fieldAddr rfl rfl f40_1).read ?_
 refine Sq.quiet (i := 13) rfl (Want.yes rfl rfl rfl rfl) rfl (ltN rfl) (QR.loadSlF1 rfl rfl g3 Due.enc_len (SlAt.own Due.enc_len (by repeat constructor)) (show (d :: L2)[Int.toNat 0]? = some d from rfl) (Due.sub_at_ _)) ?_
 refine Sq.quiet (i := 14) rfl (Want.yes rfl rfl rfl rfl) rfl (ltN rfl) (QP.move rfl rfl).read ?_
 refine Sq.quiet (i := 15) rfl (Want.yes rfl rfl rfl rfl) rfl (ltN rfl) (QP.gtr rfl rfl rfl).read ?_
 refine J.caseD (fun c22 => ?_) (fun c22 => ?_)
 ·skip
  refine Sq.quiet (i := 16) rfl (Want.none rfl) rfl (ltN rfl) (QP.pick_f rfl rfl rfl).read ?_
  refine Sq.nil ?_
  refine hk3 _ _ ?_
  refine Run.cond_t rfl ?_
  refine Run.seq fun k4 hk4 => ?_
  refine Run.region ?_
  show Sq _ _ _ [0, 1, 2] _ _ _ _
  refine Sq.quiet (i := 0) rfl (Want.none rfl) rfl (ltN rfl) (QP.build (l := Due.enc Due.zero) rfl st40 rfl (by exact trivial) rfl).read ?_
  refine Sq.act (i := 1) rfl (Want.none rfl) rfl (EF.storeA rfl rfl rfl z40 (SetL.all (Due.enc_len _) (Due.enc_len _)) (Due.enc_cell _)) ?_
  rintro _ _ rfl
  refine Sq.quiet (i := 2) rfl (Want.none rfl) rfl (ltN rfl) (QP.assign rfl rfl).read ?_
  refine Sq.nil ?_
  refine hk4 _ _ ?_
  refine Run.ret ?_
  rw [pop_gt (d := d) (L2 := L2) c22]
  exact J.ends (res_cell2 rfl rfl g40 (Due.enc_sub _) rfl) (.cons (by repeat constructor) (.cons (by repeat constructor) Takes.nil)) ⟨_, _, rfl, rfl⟩
 ·skip
  refine Sq.quiet (i := 16) rfl (Want.none rfl) rfl (ltN rfl) (QP.pick_f rfl rfl rfl).read ?_
  refine Sq.nil ?_
  refine hk3 _ _ ?_
  refine Run.cond_f rfl ?_
  refine Run.skip ?_
  refine hk2 _ _ ?_
  refine Run.seq fun k5 hk5 => ?_
  refine Run.region ?_
  show Sq _ _ _ [0, 1, 2, 3, 4, 5, 6, 7] _ _ _ _
  refine Sq.quiet (i := 0) rfl (Want.none rfl) rfl (ltN rfl) (QP.move rfl rfl).read ?_
  refine Sq.quiet (i := 1) rfl (Want.none rfl) rfl (ltN rfl) (QP.nilCheck rfl rfl).read ?_
  refine Sq.quiet (i := 2) rfl (Want.none rfl) rfl (ltN rfl) (QP.fieldAddr rfl rfl f52_0).read ?_
  refine Sq.quiet (i := 3) rfl (Want.none rfl) rfl (ltN rfl) (QR.load1 (v := .slice _ (d :: L2).length _) rfl rfl g44 (Ref04Queue.sub_l _)) ?_
  refine Sq.quiet (i := 4) rfl (Want.none rfl) rfl (ltN rfl) (QP.indexAddr rfl rfl rfl Try.underlying44 z40 (by first | omega | (simp <;> omega)) (by first | omega | (simp <;> omega))).read ?_
  refine Sq.quiet (i := 5) rfl (Want.none rfl) rfl (ltN rfl) (QR.loadSl rfl rfl g40 Due.enc_len (SlAt.own Due.enc_len (by repeat constructor)) (show (d :: L2)[Int.toNat 0]? = some d from rfl)) ?_
  refine Sq.eff (i := 6) rfl (Want.none rfl) rfl (ltN rfl) (EF.allocA (l := Due.enc Due.zero) rfl zero40) ?_
  rintro _ _ ⟨b6, rfl, rfl⟩
  refine Sq.act (i := 7) rfl (Want.none rfl) rfl (EF.storeA rfl rfl rfl z40 (SetL.all (Due.enc_len _) (Due.enc_len _)) (Due.enc_cell _)) ?_
  rintro _ _ rfl
  refine Sq.nil ?_
  refine hk5 _ _ ?_
  refine Run.seq fun k6 hk6 => ?_
  refine Run.region ?_
  show Sq _ _ _ [0, 1, 2, 3, 4, 5, 6, 7, 8] _ _ _ _
  refine Sq.quiet (i := 0) rfl (Want.none rfl) rfl (ltN rfl) (QP.move rfl rfl).read ?_
  refine Sq.quiet (i := 1) rfl (Want.none rfl) rfl (ltN rfl) (QP.move rfl rfl).read ?_
  refine Sq.quiet (i := 2) rfl (Want.none rfl) rfl (ltN rfl) (QP.nilCheck rfl rfl).read ?_
  refine Sq.quiet (i := 3) rfl (Want.none rfl) rfl (ltN rfl) (QP.fieldAddr rfl rfl f52_0).read ?_
  refine Sq.quiet (i := 4) rfl (Want.none rfl) rfl (ltN rfl) (QR.load1 (v := .slice _ (d :: L2).length _) rfl rfl g44 (Ref04Queue.sub_l _)) ?_
  refine Sq.quiet (i := 5) rfl (Want.none rfl) rfl (ltN rfl) (QP.sliceLo rfl rfl rfl Try.underlying44 z40 (by first | omega | (simp <;> omega)) (by first | omega | (simp <;> omega))).read ?_
  refine Sq.quiet (i := 6) rfl (Want.none rfl) rfl (ltN rfl) (QP.nilCheck rfl rfl).read ?_
  refine Sq.quiet (i := 7) rfl (Want.none rfl) rfl (ltN rfl) (QP.fieldAddr rfl rfl f52_0).read ?_
  refine Sq.act (i := 8) rfl (Want.none rfl) rfl (EF.store rfl rfl rfl z44 (Ref04Queue.set_l _ ⟨slOff (some ⟨b0, o0, none⟩) c 1 2, L2.length, c - 1⟩) (cell_one rfl)) ?_
  rintro _ _ rfl
  refine Sq.nil ?_
  refine hk6 _ _ ?_
  refine Run.seq fun k7 hk7 => ?_
  refine Run.region ?_
  show Sq _ _ _ [0, 1, 2] _ _ _ _
  refine Sq.quiet (i := 0) rfl (Want.none rfl) rfl (ltN rfl) (QR.load rfl rfl g40 (Due.enc_sub _)) ?_
  refine Sq.act (i := 1) rfl (Want.none rfl) rfl (EF.storeA rfl rfl rfl z40 (SetL.all (Due.enc_len _) (Due.enc_len _)) (Due.enc_cell _)) ?_
  rintro _ _ rfl
  refine Sq.quiet (i := 2) rfl (Want.none rfl) rfl (ltN rfl) (QP.assign rfl rfl).read ?_
  refine Sq.nil ?_
  refine hk7 _ _ ?_
  refine Run.ret ?_
  rw [pop_le (d := d) (L2 := L2) c22]
  refine J.slDrop 1 (by repeat constructor) Due.enc_len (by simp) ?_
  exact J.ends (res_cell2 rfl rfl g40 (Due.enc_sub _) rfl) (.cons (by repeat constructor) (.cons (by repeat constructor) Takes.nil)) ⟨_, _, rfl, rfl⟩

theorem rpop_spec (F : Fr) {b : Nat} {a : Option Addr} {c : Nat} {L : List Due} (hL : L.length ≤ 1000000) (now : Int) : Spec Try.prog 24 #[fp b, .int .i64 now] [blk b (Ref04Queue.enc ⟨⟨a, L.length, c⟩⟩) 52, slA 40 2 Due.enc (.slice a L.length c) L] F fun v S => ∃ a2 c2, v = .tuple #[.agg (Due.enc (popD L now).1).toArray, .bool (popD L now).2.1] ∧ S = [blk b (Ref04Queue.enc ⟨⟨a2, (popD L now).2.2.length, c2⟩⟩) 52, slA 40 2 Due.enc (.slice a2 (popD L now).2.2.length c2) (popD L now).2.2] := by
  cases L with
  | nil => exact (rpop_nil F now).mono fun v S ⟨h1, h2⟩ => ⟨a, c, h1, h2⟩
  | cons d L2 => exact rpop_cons F d L2 hL now

set_option maxHeartbeats 1000000 in
theorem rset_spec (F : Fr) {b : Nat} {a : Option Addr} {c : Nat} {L : List Due} (hG : GoodD L) (s : ByteArray) (t : Int) : Spec Try.prog 22 #[fp b, .string s, .int .i64 t] [blk b (Ref04Queue.enc ⟨⟨a, L.length, c⟩⟩) 52, slA 40 2 Due.enc (.slice a L.length c) L] F (fun v S => ∃ a2 c2, v = .int .i64 (setR L s t).1 ∧ S = [blk b (Ref04Queue.enc ⟨⟨a2, (setR L s t).2.length, c2⟩⟩) 52, slA 40 2 Due.enc (.slice a2 (setR L s t).2.length c2) (setR L s t).2]) := by
 have hGl := hG.len
 refine Spec.intro (N := 69) (args := [fp b, .string s, .int .i64 t]) Try.func22 rfl rfl (by simp) ?_
 refine Run.seq fun k1 hk1 => ?_
 refine Run.region ?_
 show Sq _ _ _ [0] _ _ _ _
 refine J.slCase (v := .slice a L.length c) (xs := L) (by repeat constructor) (fun a1 c1 hv1 hh => ?_)
 cases hv1
 have hcle := hh.le
 refine Sq.quiet (i := 0) rfl (Want.none rfl) rfl (ltN rfl) (QP.assign rfl rfl).read ?_
 refine Sq.nil ?_
 refine hk1 _ _ ?_
 refine Run.seq fun k2 hk2 => ?_
 refine Run.seq fun k3 hk3 => ?_
 refine Run.region ?_
 show Sq _ _ _ [0, 1, 2, 3, 4, 5, 6, 7, 8, 9, 10, 11] _ _ _ _
 refine Sq.quiet (i := 0) rfl (Want.none rfl) rfl (ltN rfl) (QP.move rfl rfl).read ?_
 refine Sq.quiet (i := 1) rfl (Want.none rfl) rfl (ltN rfl) (QP.move rfl rfl).read ?_
 refine Sq.eff (i := 2) rfl (Want.none rfl) rfl (ltN rfl) (EF.call rfl ce26 rfl (.cons (by repeat constructor) (.cons (by repeat constructor) Takes.nil)) (fun F' hle hr => rfind_spec F' (by omega) s)) ?_
 rintro _ _ ⟨_, ⟨rfl, n11, rfl, hf11⟩, rfl⟩
 refine J.app ?_
 refine Sq.quiet (i := 3) rfl (Want.none rfl) rfl (ltN rfl) (QP.lss rfl rfl rfl).read ?_
 refine J.caseD (fun c12 => ?_) (fun c12 => ?_)
 ·skip
  refine Sq.quiet (i := 4) rfl (Want.none rfl) rfl (ltN rfl) (QP.move rfl rfl).read ?_
  refine Sq.quiet (i := 5) rfl (Want.yes rfl rfl rfl rfl) rfl (ltN rfl) (QP.move rfl rfl).read ?_
  refine Sq.quiet (i := 6) rfl (Want.yes rfl rfl rfl rfl) rfl (ltN rfl) (QP.nilCheck rfl rfl).read ?_
  refine Sq.quiet (i := 7) rfl (Want.yes rfl rfl rfl rfl) rfl (ltN rfl) (QP.fieldAddr rfl rfl f52_0).read ?_
  refine Sq.quiet (i := 8) rfl (Want.yes rfl rfl rfl rfl) rfl (ltN rfl) (QR.load1 (v := .slice _ L.length _) rfl rfl g44 (Ref04Queue.sub_l _)) ?_
  refine Sq.quiet (i := 9) rfl (Want.yes rfl rfl rfl rfl) rfl (ltN rfl) (QP.len rfl rfl rfl Try.underlying44).read ?_
  refine Sq.quiet (i := 10) rfl (Want.yes rfl rfl rfl rfl) rfl (ltN rfl) (QP.geq rfl rfl rfl).read ?_
  refine J.caseD (fun c19 => ?_) (fun c19 => ?_)
  ·skip
   refine Sq.quiet (i := 11) rfl (Want.none rfl) rfl (ltN rfl) (QP.pick_t rfl rfl rfl).read ?_
   refine Sq.nil ?_
   refine hk3 _ _ ?_
   refine Run.cond_t rfl ?_
   refine Run.seq fun k4 hk4 => ?_
   refine Run.region ?_
   show Sq _ _ _ [0] _ _ _ _
   refine Sq.quiet (i := 0) rfl (Want.none rfl) rfl (ltN rfl) (QP.assign rfl rfl).read ?_
   refine Sq.nil ?_
   refine hk4 _ _ ?_
   refine Run.ret ?_
   have hno : hasD L s = false := by rcases hf11 with ⟨_, h⟩ | ⟨i, x, h, _, _⟩; exact h; omega
   have e : setR L s t = (6, L) := by unfold setR; rw [if_pos ⟨hno, by omega⟩]
   rw [e]
   exact J.ends (res_tmp rfl rfl) (.cons (by repeat constructor) (.cons (by repeat constructor) Takes.nil)) ⟨_, _, rfl, rfl⟩
  ·skip
   refine Sq.quiet (i := 11) rfl (Want.none rfl) rfl (ltN rfl) (QP.pick_t rfl rfl rfl).read ?_
   refine Sq.nil ?_
   refine hk3 _ _ ?_
   refine Run.cond_f rfl ?_
   refine Run.skip ?_
   refine hk2 _ _ ?_
   refine Run.seq fun k5 hk5 => ?_
   refine Run.region ?_
   show Sq _ _ _ [0, 1, 2] _ _ _ _
   refine Sq.quiet (i := 0) rfl (Want.none rfl) rfl (ltN rfl) (QP.move rfl rfl).read ?_
   refine Sq.quiet (i := 1) rfl (Want.none rfl) rfl (ltN rfl) (QP.move rfl rfl).read ?_
   refine Sq.eff (i := 2) rfl (Want.none rfl) rfl (ltN rfl) (EF.call rfl ce23 rfl (.cons (by repeat constructor) (.cons (by repeat constructor) Takes.nil)) (fun F' hle hr => rcancel_spec F' (by omega) hG.nodup s)) ?_
   rintro _ _ ⟨_, ⟨a2, c2, rfl, rfl⟩, rfl⟩
   refine J.app ?_
   refine Sq.nil ?_
   refine hk5 _ _ ?_
   refine Run.seq fun k6 hk6 => ?_
   refine Run.region ?_
   show Sq _ _ _ [0, 1, 2, 3, 4] _ _ _ _
   obtain ⟨L1, hL1⟩ : ∃ L1, L1 = delD L s := ⟨_, rfl⟩
   rw [← hL1]
   have hd1 := del_len L s
   rw [← hL1] at hd1
   have hs1 : L1.Pairwise (fun a b => cmpDue a b < 0) := by rw [hL1]; exact del_sort hG.sort
   have hne1 : ∀ y ∈ L1, y ≠ (⟨s, t⟩ : Due) := fun y hy he => by rw [hL1] at hy; have := (List.mem_filter.1 hy).2; rw [he] at this; simp at this
   refine J.slCase (v := .slice a2 L1.length c2) (xs := L1) (by repeat constructor) (fun a3 c3 hv3 hh2 => ?_)
   cases hv3
   have hcle2 := hh2.le
   refine Sq.quiet (i := 0) rfl (Want.none rfl) rfl (ltN rfl) (QP.move rfl rfl).read ?_
   refine Sq.quiet (i := 1) rfl (Want.none rfl) rfl (ltN rfl) (QP.move rfl rfl).read ?_
   refine Sq.quiet (i := 2) rfl (Want.none rfl) rfl (ltN rfl) (QP.build (l := Due.enc ⟨s, t⟩) rfl st40 rfl (by exact ⟨rfl, ⟨rfl, trivial⟩⟩) rfl).read ?_
   refine Sq.eff (i := 3) rfl (Want.none rfl) rfl (ltN rfl) (EF.allocA (l := Due.enc Due.zero) rfl zero40) ?_
   rintro _ _ ⟨b7, rfl, rfl⟩
   refine Sq.act (i := 4) rfl (Want.none rfl) rfl (EF.storeA rfl rfl rfl z40 (SetL.all (Due.enc_len _) (Due.enc_len _)) (Due.enc_cell _)) ?_
   rintro _ _ rfl
   refine Sq.nil ?_
   refine hk6 _ _ ?_
   refine Run.seq fun k7 hk7 => ?_
   refine Run.region ?_
   show Sq _ _ _ [0, 1, 2, 3, 4, 5] _ _ _ _
   refine Sq.quiet (i := 0) rfl (Want.none rfl) rfl (ltN rfl) (QP.move rfl rfl).read ?_
   refine Sq.quiet (i := 1) rfl (Want.none rfl) rfl (ltN rfl) (QP.nilCheck rfl rfl).read ?_
   refine Sq.quiet (i := 2) rfl (Want.none rfl) rfl (ltN rfl) (QP.fieldAddr rfl rfl f52_0).read ?_
   refine Sq.quiet (i := 3) rfl (Want.none rfl) rfl (ltN rfl) (QR.load1 (v := .slice _ L1.length _) rfl rfl g44 (Ref04Queue.sub_l _)) ?_
   refine Sq.quiet (i := 4) rfl (Want.none rfl) rfl (ltN rfl) (QP.len rfl rfl rfl Try.underlying44).read ?_
   refine Sq.quiet (i := 5) rfl (Want.none rfl) rfl (ltN rfl) (QP.assign rfl rfl).read ?_
   refine Sq.nil ?_
   refine hk7 _ _ ?_
   refine Run.seq fun k8 hk8 => ?_
   refine Run.block ?_
   refine Run.loop1 (fun (j : Nat) => j ≤ L1.length ∧ ∀ y ∈ L1.drop j, cmpDue (⟨s, t⟩ : Due) y < 0) (fun j => .cons 0 (fp b) (.cons 7 (fp b7) (.cons 8 (.int .i64 j) (.nil)))) (fun j => [blk b (Ref04Queue.enc ⟨⟨a2, L1.length, c2⟩⟩) 52, slA 40 2 Due.enc (.slice a2 L1.length c2) L1, blk b7 (Due.enc (⟨s, t⟩ : Due)) 40]) (fun j => j) (L1.length) (⟨Nat.le_refl _, by simp⟩) ?_ ?_
   ·exact fun _ j => J.envJ (J.keep (.cons (by repeat constructor) (.cons (by repeat constructor) (.cons (by repeat constructor) Takes.nil))) j) ⟨rfl, rfl, rfl, trivial⟩
   rintro j ⟨hjl, haft⟩ kl9 hl9
   refine Run.seq fun k10 hk10 => ?_
   refine Run.seq fun k11 hk11 => ?_
   refine Run.regionD (M := [0, 1, 3, 7, 7, 23, 55, 119, 7, 263, 1015, 2039, 4095, 8191]) (q := 12287) (r := 2184) (by kernel_rfl) ?_
   refine Dw.pure (i := 0) rfl (by kernel_rfl) (Want.none rfl) rfl (ltN rfl) (QP.move rfl rfl) ?_
   refine Dw.pure (i := 1) rfl (by kernel_rfl) (Want.none rfl) rfl (ltN rfl) (QP.gtr rfl rfl rfl) ?_
   refine J.caseD (fun c33 => ?_) (fun c33 => ?_)
   ·skip
    refine Dw.pure (i := 2) rfl (by kernel_rfl) (Want.none rfl) rfl (ltN rfl) (QP.move rfl rfl) ?_
    obtain ⟨x, hi⟩ : ∃ x, L1[Int.toNat ((j : Int) - 1)]? = some x := ⟨_, List.getElem?_eq_getElem (by omega)⟩
    obtain ⟨b0, o0, rfl⟩ := hh2.get (by omega)
    refine Dw.read (i := 3) rfl (by kernel_rfl) (Want.yes rfl rfl rfl rfl) rfl (ltN rfl) (QR.load rfl rfl g40 (Due.enc_sub _)) ?_
    refine Dw.pure (i := 4) rfl (by kernel_rfl) (Want.yes rfl rfl rfl rfl) rfl (ltN rfl) (QP.move rfl rfl) ?_
    refine Dw.pure (i := 5) rfl (by kernel_rfl) (Want.yes rfl rfl rfl rfl) rfl (ltN rfl) (QP.nilCheck rfl rfl) ?_
    refine Dw.pure (i := 6) rfl (by kernel_rfl) (Want.yes rfl rfl rfl rfl) rfl (ltN rfl) (QP.fieldAddr rfl rfl f52_0) ?_
    refine Dw.read (i := 7) rfl (by kernel_rfl) (Want.yes rfl rfl rfl rfl) rfl (ltN rfl) (QR.load1 (v := .slice _ L1.length _) rfl rfl g44 (Ref04Queue.sub_l _)) ?_
    refine Dw.pure (i := 8) rfl (by kernel_rfl) (Want.yes rfl rfl rfl rfl) rfl (ltN rfl) (QP.move rfl rfl) ?_
    refine Dw.pure (i := 9) rfl (by kernel_rfl) (Want.yes rfl rfl rfl rfl) rfl (ltN rfl) (QP.sub64 rfl rfl rfl (by first | omega | (simp <;> omega)) (by first | omega | (simp <;> omega))) ?_
    refine Dw.pure (i := 10) rfl (by kernel_rfl) (Want.yes rfl rfl rfl rfl) rfl (ltN rfl) (QP.indexAddr rfl rfl rfl Try.underlying44 z40 (by first | omega | (simp <;> omega)) (by first | omega | (simp <;> omega))) ?_
    refine Dw.read (i := 11) rfl (by kernel_rfl) (Want.yes rfl rfl rfl rfl) rfl (ltN rfl) (QR.loadSl rfl rfl g40 Due.enc_len (SlAt.own Due.enc_len (by repeat constructor)) hi) ?_
    refine Dw.eff (i := 12) (by kernel_rfl) (by kernel_rfl) ?_
    refine One.mk (o := _) (l := []) rfl (by kernel_rfl) (Want.yes rfl rfl rfl rfl) rfl (ltN rfl) (EF.call rfl ce32 rfl Takes.nil (fun F' hle hr => ahead_spec F' (⟨s, t⟩ : Due) x)) (by kernel_rfl) ?_
    rintro _ _ ⟨_, ⟨rfl, rfl⟩, rfl⟩
    refine ⟨fun _ h => (by cases h), ?_⟩
    refine J.app ?_
    refine J.caseB (fun c44 => ?_) (fun c44 => ?_)
    ·skip
     refine Dw.pure (i := 13) rfl (by kernel_rfl) (Want.none rfl) rfl (ltN rfl) (QP.pick_t rfl rfl rfl) ?_
     refine Dw.nil (by kernel_rfl) ?_
     refine hk11 _ _ ?_
     refine Run.cond_t rfl ?_
     refine Run.skip ?_
     refine hk10 _ _ ?_
     refine Run.block ?_
     refine Run.region ?_
     show Sq _ _ _ [0, 1, 2] _ _ _ _
     refine Sq.quiet (i := 0) rfl (Want.none rfl) rfl (ltN rfl) (QP.move rfl rfl).read ?_
     refine Sq.quiet (i := 1) rfl (Want.none rfl) rfl (ltN rfl) (QP.sub64 rfl rfl rfl (by first | omega | (simp <;> omega)) (by first | omega | (simp <;> omega))).read ?_
     refine Sq.quiet (i := 2) rfl (Want.none rfl) rfl (ltN rfl) (QP.assign rfl rfl).read ?_
     refine Sq.nil ?_
     exact J.envJ (J.keep (.cons (by repeat constructor) (.cons (by repeat constructor) (.cons (by repeat constructor) Takes.nil))) (hl9 (j - 1) (⟨by omega, behind_d (by omega) hi (by simpa using c44) haft⟩) (by omega))) ⟨rfl, rfl, (congrArg (fun n => some (Value.int .i64 n)) (show _ = _ by omega)), trivial⟩
    ·skip
     refine Dw.pure (i := 13) rfl (by kernel_rfl) (Want.none rfl) rfl (ltN rfl) (QP.pick_t rfl rfl rfl) ?_
     refine Dw.nil (by kernel_rfl) ?_
     refine hk11 _ _ ?_
     refine Run.cond_f rfl ?_
     refine Run.exit rfl ?_
     refine hk8 _ _ ?_
     refine Run.seq fun k12 hk12 => ?_
     refine Run.regionD (M := [0, 0, 0, 4, 12, 28, 0, 124, 254, 0, 512, 2046, 0, 4096, 12288, 28672, 0, 126976, 262142, 524287, 1048575, 2097151]) (q := 1831677) (r := 33312) (by kernel_rfl) ?_
     have hbef : ∀ y ∈ L1.take j, cmpDue y (⟨s, t⟩ : Due) < 0 := before_d hs1 (by omega) hi (by simpa using c44) (hne1 x (List.mem_of_getElem? hi))
     refine Dw.pure (i := 0) rfl (by kernel_rfl) (Want.none rfl) rfl (ltN rfl) (QP.move rfl rfl) ?_
     refine Dw.pure (i := 2) rfl (by kernel_rfl) (Want.none rfl) rfl (ltN rfl) (QP.move rfl rfl) ?_
     refine Dw.pure (i := 3) rfl (by kernel_rfl) (Want.none rfl) rfl (ltN rfl) (QP.nilCheck rfl rfl) ?_
     refine Dw.pure (i := 4) rfl (by kernel_rfl) (Want.none rfl) rfl (ltN rfl) (QP.fieldAddr rfl rfl f52_0) ?_
     refine Dw.read (i := 5) rfl (by kernel_rfl) (Want.none rfl) rfl (ltN rfl) (QR.load1 (v := .slice _ L1.length _) rfl rfl g44 (Ref04Queue.sub_l _)) ?_
     refine Dw.pure (i := 6) rfl (by kernel_rfl) (Want.none rfl) rfl (ltN rfl) (QP.move rfl rfl) ?_
     refine Dw.pure (i := 7) rfl (by kernel_rfl) (Want.none rfl) rfl (ltN rfl) (QP.sliceHi rfl rfl rfl Try.underlying44 z40 (by first | omega | (simp <;> omega)) (by first | omega | (simp <;> omega))) ?_
     refine Dw.read (i := 9) rfl (by kernel_rfl) (Want.none rfl) rfl (ltN rfl) (QR.load rfl rfl g40 (Due.enc_sub _)) ?_
     refine Dw.pure (i := 12) rfl (by kernel_rfl) (Want.none rfl) rfl (ltN rfl) (QP.move rfl rfl) ?_
     refine Dw.pure (i := 13) rfl (by kernel_rfl) (Want.none rfl) rfl (ltN rfl) (QP.nilCheck rfl rfl) ?_
     refine Dw.pure (i := 14) rfl (by kernel_rfl) (Want.none rfl) rfl (ltN rfl) (QP.fieldAddr rfl rfl f52_0) ?_
     refine Dw.read (i := 15) rfl (by kernel_rfl) (Want.none rfl) rfl (ltN rfl) (QR.load1 (v := .slice _ L1.length _) rfl rfl g44 (Ref04Queue.sub_l _)) ?_
     refine Dw.pure (i := 16) rfl (by kernel_rfl) (Want.none rfl) rfl (ltN rfl) (QP.move rfl rfl) ?_
     refine Dw.pure (i := 17) rfl (by kernel_rfl) (Want.none rfl) rfl (ltN rfl) (QP.sliceLo rfl rfl rfl Try.underlying44 z40 (by first | omega | (simp <;> omega)) (by first | omega | (simp <;> omega))) ?_
     refine Dw.effs (l := [1, 10]) (by kernel_rfl) (by kernel_rfl) ?_
     rw [List.forall_mem_cons, List.forall_mem_cons]
     refine ⟨?_, ?_, fun _ h => (by cases h)⟩
     ·skip
      refine One.mk (o := _) (l := [15, 9, 5]) rfl (by kernel_rfl) (Want.none rfl) rfl (ltN rfl) (EF.buildSlice0 (enc := Due.enc) rfl Try.underlying44 z40 zero40 (by simp [Value.cells, Due.enc_len]) (by decide)) (by kernel_rfl) ?_
      rintro _ _ ⟨b49, rfl, rfl⟩
      refine ⟨?_, ?_⟩
      ·rw [List.forall_mem_cons, List.forall_mem_cons, List.forall_mem_cons]
       refine ⟨?_, ?_, ?_, fun _ h => (by cases h)⟩
       ·exact Look.mk rfl rfl rfl (QR.load1 (v := .slice _ L1.length _) rfl rfl g44 (Ref04Queue.sub_l _))
       ·exact Look.mk rfl rfl rfl (QR.load rfl rfl g40 (Due.enc_sub _))
       ·exact Look.mk rfl rfl rfl (QR.load1 (v := .slice _ L1.length _) rfl rfl g44 (Ref04Queue.sub_l _))
      refine ?_
      refine Dw.effs (l := [8, 10]) (by kernel_rfl) (by kernel_rfl) ?_
      rw [List.forall_mem_cons, List.forall_mem_cons]
      refine ⟨?_, ?_, fun _ h => (by cases h)⟩
      ·skip
       refine One.mk (o := _) (l := [15, 9]) rfl (by kernel_rfl) (Want.none rfl) rfl (ltN rfl) (EF.append (xs := []) (ys := ((L1.take j).drop 0)) el40 Due.enc_len Due.enc_cell rfl rfl rfl Try.underlying44 Try.underlying44 rfl rfl (by repeat constructor) (RowsAt.cutOwn (i := 0) (j := j) Due.enc_len hh2 (by repeat constructor) (by omega) (by omega)) (by first | omega | (simp <;> omega))) (by kernel_rfl) ?_
       rintro sl56 _ rfl
       refine ⟨?_, ?_⟩
       ·rw [List.forall_mem_cons, List.forall_mem_cons]
        refine ⟨?_, ?_, fun _ h => (by cases h)⟩
        ·exact Look.mk rfl rfl rfl (QR.load1 (v := .slice _ L1.length _) rfl rfl g44 (Ref04Queue.sub_l _))
        ·exact Look.mk rfl rfl rfl (QR.load rfl rfl g40 (Due.enc_sub _))
       refine ?_
       refine Dw.slCase (v := sl56) (by repeat constructor) (fun a56 c56 hv56 hh56 => ?_)
       subst hv56
       refine Dw.eff (i := 10) (by kernel_rfl) (by kernel_rfl) ?_
       refine One.mk (o := _) (l := [15, 5]) rfl (by kernel_rfl) (Want.none rfl) rfl (ltN rfl) (EF.buildSlice1 rfl Try.underlying44 z40 zero40 (by simp [Value.cells, Due.enc_len]) (by decide) rfl rfl (Due.enc_len _) (by decide)) (by kernel_rfl) ?_
       rintro _ _ ⟨b58, rfl, rfl⟩
       refine ⟨?_, ?_⟩
       ·rw [List.forall_mem_cons, List.forall_mem_cons]
        refine ⟨?_, ?_, fun _ h => (by cases h)⟩
        ·exact Look.mk rfl rfl rfl (QR.load1 (v := .slice _ L1.length _) rfl rfl g44 (Ref04Queue.sub_l _))
        ·exact Look.mk rfl rfl rfl (QR.load1 (v := .slice _ L1.length _) rfl rfl g44 (Ref04Queue.sub_l _))
       refine ?_
       refine Dw.eff (i := 11) (by kernel_rfl) (by kernel_rfl) ?_
       refine One.mk (o := _) (l := [15]) rfl (by kernel_rfl) (Want.none rfl) rfl (ltN rfl) (EF.append1 (xs := _) (s := (⟨s, t⟩ : Due)) el40 Due.enc_len Due.enc_cell rfl rfl rfl Try.underlying44 Try.underlying44 rfl rfl (by repeat constructor) (by repeat constructor) (by first | omega | (simp <;> omega))) (by kernel_rfl) ?_
       rintro sl59 _ rfl
       refine ⟨?_, ?_⟩
       ·rw [List.forall_mem_cons]
        refine ⟨?_, fun _ h => (by cases h)⟩
        ·exact Look.mk rfl rfl rfl (QR.load1 (v := .slice _ L1.length _) rfl rfl g44 (Ref04Queue.sub_l _))
       refine ?_
       refine Dw.slCase (v := sl59) (by repeat constructor) (fun a59 c59 hv59 hh59 => ?_)
       subst hv59
       refine Dw.eff (i := 18) (by kernel_rfl) (by kernel_rfl) ?_
       refine One.mk (o := _) (l := []) rfl (by kernel_rfl) (Want.none rfl) rfl (ltN rfl) (EF.append (xs := _) (ys := ((L1.take L1.length).drop j)) el40 Due.enc_len Due.enc_cell rfl rfl rfl Try.underlying44 Try.underlying44 rfl rfl (by repeat constructor) (RowsAt.cutOwn (i := j) (j := L1.length) Due.enc_len hh2 (by repeat constructor) (by omega) (by omega)) (by first | omega | (simp <;> omega))) (by kernel_rfl) ?_
       rintro sl66 _ rfl
       refine ⟨fun _ h => (by cases h), ?_⟩
       refine Dw.slCase (v := sl66) (by repeat constructor) (fun a66 c66 hv66 hh66 => ?_)
       subst hv66
       refine Dw.pure (i := 19) rfl (by kernel_rfl) (Want.none rfl) rfl (ltN rfl) (QP.nilCheck rfl rfl) ?_
       refine Dw.pure (i := 20) rfl (by kernel_rfl) (Want.none rfl) rfl (ltN rfl) (QP.fieldAddr rfl rfl f52_0) ?_
       refine Dw.eff (i := 21) (by kernel_rfl) (by kernel_rfl) ?_
       refine One.act (o := _) (l := []) rfl (by kernel_rfl) (Want.none rfl) rfl (EF.store rfl rfl rfl z44 (Ref04Queue.set_l _ ⟨a66, _, c66⟩) (cell_one rfl)) (by kernel_rfl) ?_
       rintro _ _ rfl
       refine ⟨fun _ h => (by cases h), ?_⟩
       refine Dw.nil (by kernel_rfl) ?_
       refine hk12 _ _ ?_
       refine Run.seq fun k13 hk13 => ?_
       refine Run.region ?_
       show Sq _ _ _ [0] _ _ _ _
       refine Sq.quiet (i := 0) rfl (Want.none rfl) rfl (ltN rfl) (QP.assign rfl rfl).read ?_
       refine Sq.nil ?_
       refine hk13 _ _ ?_
       refine Run.ret ?_
       have e : setR L s t = (0, setD L s t) := by unfold setR; rw [if_neg (fun ⟨h1, h2⟩ => by rcases hf11 with ⟨h, _⟩ | ⟨i, x, _, h, hx⟩; omega; rw [← hx, has_of (List.mem_of_getElem? h)] at h1; cases h1)]
       have e2 : setD L s t = (([] ++ (L1.take j).drop 0) ++ [(⟨s, t⟩ : Due)]) ++ (L1.take L1.length).drop j := by rw [cut_ins, ins_eq hjl hbef haft, hL1]; rfl
       rw [e, e2]
       exact J.ends (res_tmp rfl rfl) (.cons (by repeat constructor) (.cons (by repeat constructor) Takes.nil)) ⟨_, _, rfl, rfl⟩
      ·skip
       refine One.mk (o := _) (l := [15, 5]) rfl (by kernel_rfl) (Want.none rfl) rfl (ltN rfl) (EF.buildSlice1 rfl Try.underlying44 z40 zero40 (by simp [Value.cells, Due.enc_len]) (by decide) rfl rfl (Due.enc_len _) (by decide)) (by kernel_rfl) ?_
       rintro _ _ ⟨b58, rfl, rfl⟩
       refine ⟨?_, ?_⟩
       ·rw [List.forall_mem_cons, List.forall_mem_cons]
        refine ⟨?_, ?_, fun _ h => (by cases h)⟩
        ·exact Look.mk rfl rfl rfl (QR.load1 (v := .slice _ L1.length _) rfl rfl g44 (Ref04Queue.sub_l _))
        ·exact Look.mk rfl rfl rfl (QR.load1 (v := .slice _ L1.length _) rfl rfl g44 (Ref04Queue.sub_l _))
       refine ?_
       refine Dw.eff (i := 8) (by kernel_rfl) (by kernel_rfl) ?_
       refine One.mk (o := _) (l := [15, 9]) rfl (by kernel_rfl) (Want.none rfl) rfl (ltN rfl) (EF.append (xs := []) (ys := ((L1.take j).drop 0)) el40 Due.enc_len Due.enc_cell rfl rfl rfl Try.underlying44 Try.underlying44 rfl rfl (by repeat constructor) (RowsAt.cutOwn (i := 0) (j := j) Due.enc_len hh2 (by repeat constructor) (by omega) (by omega)) (by first | omega | (simp <;> omega))) (by kernel_rfl) ?_
       rintro sl56 _ rfl
       refine ⟨?_, ?_⟩
       ·rw [List.forall_mem_cons, List.forall_mem_cons]
        refine ⟨?_, ?_, fun _ h => (by cases h)⟩
        ·exact Look.mk rfl rfl rfl (QR.load1 (v := .slice _ L1.length _) rfl rfl g44 (Ref04Queue.sub_l _))
        ·exact Look.mk rfl rfl rfl (QR.load rfl rfl g40 (Due.enc_sub _))
       refine ?_
       refine Dw.slCase (v := sl56) (by repeat constructor) (fun a56 c56 hv56 hh56 => ?_)
       subst hv56
       refine Dw.eff (i := 11) (by kernel_rfl) (by kernel_rfl) ?_
       refine One.mk (o := _) (l := [15]) rfl (by kernel_rfl) (Want.none rfl) rfl (ltN rfl) (EF.append1 (xs := _) (s := (⟨s, t⟩ : Due)) el40 Due.enc_len Due.enc_cell rfl rfl rfl Try.underlying44 Try.underlying44 rfl rfl (by repeat constructor) (by repeat constructor) (by first | omega | (simp <;> omega))) (by kernel_rfl) ?_
       rintro sl59 _ rfl
       refine ⟨?_, ?_⟩
       ·rw [List.forall_mem_cons]
        refine ⟨?_, fun _ h => (by cases h)⟩
        ·exact Look.mk rfl rfl rfl (QR.load1 (v := .slice _ L1.length _) rfl rfl g44 (Ref04Queue.sub_l _))
       refine ?_
       refine Dw.slCase (v := sl59) (by repeat constructor) (fun a59 c59 hv59 hh59 => ?_)
       subst hv59
       refine Dw.eff (i := 18) (by kernel_rfl) (by kernel_rfl) ?_
       refine One.mk (o := _) (l := []) rfl (by kernel_rfl) (Want.none rfl) rfl (ltN rfl) (EF.append (xs := _) (ys := ((L1.take L1.length).drop j)) el40 Due.enc_len Due.enc_cell rfl rfl rfl Try.underlying44 Try.underlying44 rfl rfl (by repeat constructor) (RowsAt.cutOwn (i := j) (j := L1.length) Due.enc_len hh2 (by repeat constructor) (by omega) (by omega)) (by first | omega | (simp <;> omega))) (by kernel_rfl) ?_
       rintro sl66 _ rfl
       refine ⟨fun _ h => (by cases h), ?_⟩
       refine Dw.slCase (v := sl66) (by repeat constructor) (fun a66 c66 hv66 hh66 => ?_)
       subst hv66
       refine Dw.pure (i := 19) rfl (by kernel_rfl) (Want.none rfl) rfl (ltN rfl) (QP.nilCheck rfl rfl) ?_
       refine Dw.pure (i := 20) rfl (by kernel_rfl) (Want.none rfl) rfl (ltN rfl) (QP.fieldAddr rfl rfl f52_0) ?_
       refine Dw.eff (i := 21) (by kernel_rfl) (by kernel_rfl) ?_
       refine One.act (o := _) (l := []) rfl (by kernel_rfl) (Want.none rfl) rfl (EF.store rfl rfl rfl z44 (Ref04Queue.set_l _ ⟨a66, _, c66⟩) (cell_one rfl)) (by kernel_rfl) ?_
       rintro _ _ rfl
       refine ⟨fun _ h => (by cases h), ?_⟩
       refine Dw.nil (by kernel_rfl) ?_
       refine hk12 _ _ ?_
       refine Run.seq fun k14 hk14 => ?_
       refine Run.region ?_
       show Sq _ _ _ [0] _ _ _ _
       refine Sq.quiet (i := 0) rfl (Want.none rfl) rfl (ltN rfl) (QP.assign rfl rfl).read ?_
       refine Sq.nil ?_
       refine hk14 _ _ ?_
       refine Run.ret ?_
       have e : setR L s t = (0, setD L s t) := by unfold setR; rw [if_neg (fun ⟨h1, h2⟩ => by rcases hf11 with ⟨h, _⟩ | ⟨i, x, _, h, hx⟩; omega; rw [← hx, has_of (List.mem_of_getElem? h)] at h1; cases h1)]
       have e2 : setD L s t = (([] ++ (L1.take j).drop 0) ++ [(⟨s, t⟩ : Due)]) ++ (L1.take L1.length).drop j := by rw [cut_ins, ins_eq hjl hbef haft, hL1]; rfl
       rw [e, e2]
       exact J.ends (res_tmp rfl rfl) (.cons (by repeat constructor) (.cons (by repeat constructor) Takes.nil)) ⟨_, _, rfl, rfl⟩
     ·skip
      refine One.mk (o := _) (l := [15, 5]) rfl (by kernel_rfl) (Want.none rfl) rfl (ltN rfl) (EF.buildSlice1 rfl Try.underlying44 z40 zero40 (by simp [Value.cells, Due.enc_len]) (by decide) rfl rfl (Due.enc_len _) (by decide)) (by kernel_rfl) ?_
      rintro _ _ ⟨b58, rfl, rfl⟩
      refine ⟨?_, ?_⟩
      ·rw [List.forall_mem_cons, List.forall_mem_cons]
       refine ⟨?_, ?_, fun _ h => (by cases h)⟩
       ·exact Look.mk rfl rfl rfl (QR.load1 (v := .slice _ L1.length _) rfl rfl g44 (Ref04Queue.sub_l _))
       ·exact Look.mk rfl rfl rfl (QR.load1 (v := .slice _ L1.length _) rfl rfl g44 (Ref04Queue.sub_l _))
      refine ?_
      refine Dw.eff (i := 1) (by kernel_rfl) (by kernel_rfl) ?_
      refine One.mk (o := _) (l := [15, 9, 5]) rfl (by kernel_rfl) (Want.none rfl) rfl (ltN rfl) (EF.buildSlice0 (enc := Due.enc) rfl Try.underlying44 z40 zero40 (by simp [Value.cells, Due.enc_len]) (by decide)) (by kernel_rfl) ?_
      rintro _ _ ⟨b49, rfl, rfl⟩
      refine ⟨?_, ?_⟩
      ·rw [List.forall_mem_cons, List.forall_mem_cons, List.forall_mem_cons]
       refine ⟨?_, ?_, ?_, fun _ h => (by cases h)⟩
       ·exact Look.mk rfl rfl rfl (QR.load1 (v := .slice _ L1.length _) rfl rfl g44 (Ref04Queue.sub_l _))
       ·exact Look.mk rfl rfl rfl (QR.load rfl rfl g40 (Due.enc_sub _))
       ·exact Look.mk rfl rfl rfl (QR.load1 (v := .slice _ L1.length _) rfl rfl g44 (Ref04Queue.sub_l _))
      refine ?_
      refine Dw.eff (i := 8) (by kernel_rfl) (by kernel_rfl) ?_
      refine One.mk (o := _) (l := [15, 9]) rfl (by kernel_rfl) (Want.none rfl) rfl (ltN rfl) (EF.append (xs := []) (ys := ((L1.take j).drop 0)) el40 Due.enc_len Due.enc_cell rfl rfl rfl Try.underlying44 Try.underlying44 rfl rfl (by repeat constructor) (RowsAt.cutOwn (i := 0) (j := j) Due.enc_len hh2 (by repeat constructor) (by omega) (by omega)) (by first | omega | (simp <;> omega))) (by kernel_rfl) ?_
      rintro sl56 _ rfl
      refine ⟨?_, ?_⟩
      ·rw [List.forall_mem_cons, List.forall_mem_cons]
       refine ⟨?_, ?_, fun _ h => (by cases h)⟩
       ·exact Look.mk rfl rfl rfl (QR.load1 (v := .slice _ L1.length _) rfl rfl g44 (Ref04Queue.sub_l _))
       ·exact Look.mk rfl rfl rfl (QR.load rfl rfl g40 (Due.enc_sub _))
      refine ?_
      refine Dw.slCase (v := sl56) (by repeat constructor) (fun a56 c56 hv56 hh56 => ?_)
      subst hv56
      refine Dw.eff (i := 11) (by kernel_rfl) (by kernel_rfl) ?_
      refine One.mk (o := _) (l := [15]) rfl (by kernel_rfl) (Want.none rfl) rfl (ltN rfl) (EF.append1 (xs := _) (s := (⟨s, t⟩ : Due)) el40 Due.enc_len Due.enc_cell rfl rfl rfl Try.underlying44 Try.underlying44 rfl rfl (by repeat constructor) (by repeat constructor) (by first | omega | (simp <;> omega))) (by kernel_rfl) ?_
      rintro sl59 _ rfl
      refine ⟨?_, ?_⟩
      ·rw [List.forall_mem_cons]
       refine ⟨?_, fun _ h => (by cases h)⟩
       ·exact Look.mk rfl rfl rfl (QR.load1 (v := .slice _ L1.length _) rfl rfl g44 (Ref04Queue.sub_l _))
      refine ?_
      refine Dw.slCase (v := sl59) (by repeat constructor) (fun a59 c59 hv59 hh59 => ?_)
      subst hv59
      refine Dw.eff (i := 18) (by kernel_rfl) (by kernel_rfl) ?_
      refine One.mk (o := _) (l := []) rfl (by kernel_rfl) (Want.none rfl) rfl (ltN rfl) (EF.append (xs := _) (ys := ((L1.take L1.length).drop j)) el40 Due.enc_len Due.enc_cell rfl rfl rfl Try.underlying44 Try.underlying44 rfl rfl (by repeat constructor) (RowsAt.cutOwn (i := j) (j := L1.length) Due.enc_len hh2 (by repeat constructor) (by omega) (by omega)) (by first | omega | (simp <;> omega))) (by kernel_rfl) ?_
      rintro sl66 _ rfl
      refine ⟨fun _ h => (by cases h), ?_⟩
      refine Dw.slCase (v := sl66) (by repeat constructor) (fun a66 c66 hv66 hh66 => ?_)
      subst hv66
      refine Dw.pure (i := 19) rfl (by kernel_rfl) (Want.none rfl) rfl (ltN rfl) (QP.nilCheck rfl rfl) ?_
      refine Dw.pure (i := 20) rfl (by kernel_rfl) (Want.none rfl) rfl (ltN rfl) (QP.fieldAddr rfl rfl f52_0) ?_
      refine Dw.eff (i := 21) (by kernel_rfl) (by kernel_rfl) ?_
      refine One.act (o := _) (l := []) rfl (by kernel_rfl) (Want.none rfl) rfl (EF.store rfl rfl rfl z44 (Ref04Queue.set_l _ ⟨a66, _, c66⟩) (cell_one rfl)) (by kernel_rfl) ?_
      rintro _ _ rfl
      refine ⟨fun _ h => (by cases h), ?_⟩
      refine Dw.nil (by kernel_rfl) ?_
      refine hk12 _ _ ?_
      refine Run.seq fun k15 hk15 => ?_
      refine Run.region ?_
      show Sq _ _ _ [0] _ _ _ _
      refine Sq.quiet (i := 0) rfl (Want.none rfl) rfl (ltN rfl) (QP.assign rfl rfl).read ?_
      refine Sq.nil ?_
      refine hk15 _ _ ?_
      refine Run.ret ?_
      have e : setR L s t = (0, setD L s t) := by unfold setR; rw [if_neg (fun ⟨h1, h2⟩ => by rcases hf11 with ⟨h, _⟩ | ⟨i, x, _, h, hx⟩; omega; rw [← hx, has_of (List.mem_of_getElem? h)] at h1; cases h1)]
      have e2 : setD L s t = (([] ++ (L1.take j).drop 0) ++ [(⟨s, t⟩ : Due)]) ++ (L1.take L1.length).drop j := by rw [cut_ins, ins_eq hjl hbef haft, hL1]; rfl
      rw [e, e2]
      exact J.ends (res_tmp rfl rfl) (.cons (by repeat constructor) (.cons (by repeat constructor) Takes.nil)) ⟨_, _, rfl, rfl⟩
   ·skip
    refine Dw.pure (i := 2) rfl (by kernel_rfl) (Want.none rfl) rfl (ltN rfl) (QP.move rfl rfl) ?_
    refine Dw.skip (i := 3) rfl (by kernel_rfl) (Want.no rfl rfl rfl rfl) rfl (ltN rfl) ?_
    refine Dw.skip (i := 4) rfl (by kernel_rfl) (Want.no rfl rfl rfl rfl) rfl (ltN rfl) ?_
    refine Dw.skip (i := 5) rfl (by kernel_rfl) (Want.no rfl rfl rfl rfl) rfl (ltN rfl) ?_
    refine Dw.skip (i := 6) rfl (by kernel_rfl) (Want.no rfl rfl rfl rfl) rfl (ltN rfl) ?_
    refine Dw.skip (i := 7) rfl (by kernel_rfl) (Want.no rfl rfl rfl rfl) rfl (ltN rfl) ?_
    refine Dw.skip (i := 8) rfl (by kernel_rfl) (Want.no rfl rfl rfl rfl) rfl (ltN rfl) ?_
    refine Dw.skip (i := 9) rfl (by kernel_rfl) (Want.no rfl rfl rfl rfl) rfl (ltN rfl) ?_
    refine Dw.skip (i := 10) rfl (by kernel_rfl) (Want.no rfl rfl rfl rfl) rfl (ltN rfl) ?_
    refine Dw.skip (i := 11) rfl (by kernel_rfl) (Want.no rfl rfl rfl rfl) rfl (ltN rfl) ?_
    refine Dw.eff (i := 12) (by kernel_rfl) (by kernel_rfl) ?_
    refine One.skipD (o := _) rfl (by kernel_rfl) (Want.no rfl rfl rfl rfl) rfl (ltN rfl) ?_
    refine Dw.pure (i := 13) rfl (by kernel_rfl) (Want.none rfl) rfl (ltN rfl) (QP.pick_f rfl rfl rfl) ?_
    refine Dw.nil (by kernel_rfl) ?_
    refine hk11 _ _ ?_
    refine Run.cond_f rfl ?_
    refine Run.exit rfl ?_
    refine hk8 _ _ ?_
    refine Run.seq fun k16 hk16 => ?_
    refine Run.regionD (M := [0, 0, 0, 4, 12, 28, 0, 124, 254, 0, 512, 2046, 0, 4096, 12288, 28672, 0, 126976, 262142, 524287, 1048575, 2097151]) (q := 1831677) (r := 33312) (by kernel_rfl) ?_
    have hbef : ∀ y ∈ L1.take j, cmpDue y (⟨s, t⟩ : Due) < 0 := by rw [show j = 0 by omega]; simp
    refine Dw.pure (i := 0) rfl (by kernel_rfl) (Want.none rfl) rfl (ltN rfl) (QP.move rfl rfl) ?_
    refine Dw.pure (i := 2) rfl (by kernel_rfl) (Want.none rfl) rfl (ltN rfl) (QP.move rfl rfl) ?_
    refine Dw.pure (i := 3) rfl (by kernel_rfl) (Want.none rfl) rfl (ltN rfl) (QP.nilCheck rfl rfl) ?_
    refine Dw.pure (i := 4) rfl (by kernel_rfl) (Want.none rfl) rfl (ltN rfl) (QP.fieldAddr rfl rfl f52_0) ?_
    refine Dw.read (i := 5) rfl (by kernel_rfl) (Want.none rfl) rfl (ltN rfl) (QR.load1 (v := .slice _ L1.length _) rfl rfl g44 (Ref04Queue.sub_l _)) ?_
    refine Dw.pure (i := 6) rfl (by kernel_rfl) (Want.none rfl) rfl (ltN rfl) (QP.move rfl rfl) ?_
    refine Dw.pure (i := 7) rfl (by kernel_rfl) (Want.none rfl) rfl (ltN rfl) (QP.sliceHi rfl rfl rfl Try.underlying44 z40 (by first | omega | (simp <;> omega)) (by first | omega | (simp <;> omega))) ?_
    refine Dw.read (i := 9) rfl (by kernel_rfl) (Want.none rfl) rfl (ltN rfl) (QR.load rfl rfl g40 (Due.enc_sub _)) ?_
    refine Dw.pure (i := 12) rfl (by kernel_rfl) (Want.none rfl) rfl (ltN rfl) (QP.move rfl rfl) ?_
    refine Dw.pure (i := 13) rfl (by kernel_rfl) (Want.none rfl) rfl (ltN rfl) (QP.nilCheck rfl rfl) ?_
    refine Dw.pure (i := 14) rfl (by kernel_rfl) (Want.none rfl) rfl (ltN rfl) (QP.fieldAddr rfl rfl f52_0) ?_
    refine Dw.read (i := 15) rfl (by kernel_rfl) (Want.none rfl) rfl (ltN rfl) (QR.load1 (v := .slice _ L1.length _) rfl rfl g44 (Ref04Queue.sub_l _)) ?_
    refine Dw.pure (i := 16) rfl (by kernel_rfl) (Want.none rfl) rfl (ltN rfl) (QP.move rfl rfl) ?_
    refine Dw.pure (i := 17) rfl (by kernel_rfl) (Want.none rfl) rfl (ltN rfl) (QP.sliceLo rfl rfl rfl Try.underlying44 z40 (by first | omega | (simp <;> omega)) (by first | omega | (simp <;> omega))) ?_
    refine Dw.effs (l := [1, 10]) (by kernel_rfl) (by kernel_rfl) ?_
    rw [List.forall_mem_cons, List.forall_mem_cons]
    refine ⟨?_, ?_, fun _ h => (by cases h)⟩
    ·skip
     refine One.mk (o := _) (l := [15, 9, 5]) rfl (by kernel_rfl) (Want.none rfl) rfl (ltN rfl) (EF.buildSlice0 (enc := Due.enc) rfl Try.underlying44 z40 zero40 (by simp [Value.cells, Due.enc_len]) (by decide)) (by kernel_rfl) ?_
     rintro _ _ ⟨b49, rfl, rfl⟩
     refine ⟨?_, ?_⟩
     ·rw [List.forall_mem_cons, List.forall_mem_cons, List.forall_mem_cons]
      refine ⟨?_, ?_, ?_, fun _ h => (by cases h)⟩
      ·exact Look.mk rfl rfl rfl (QR.load1 (v := .slice _ L1.length _) rfl rfl g44 (Ref04Queue.sub_l _))
      ·exact Look.mk rfl rfl rfl (QR.load rfl rfl g40 (Due.enc_sub _))
      ·exact Look.mk rfl rfl rfl (QR.load1 (v := .slice _ L1.length _) rfl rfl g44 (Ref04Queue.sub_l _))
     refine ?_
     refine Dw.effs (l := [8, 10]) (by kernel_rfl) (by kernel_rfl) ?_
     rw [List.forall_mem_cons, List.forall_mem_cons]
     refine ⟨?_, ?_, fun _ h => (by cases h)⟩
     ·skip
      refine One.mk (o := _) (l := [15, 9]) rfl (by kernel_rfl) (Want.none rfl) rfl (ltN rfl) (EF.append (xs := []) (ys := ((L1.take j).drop 0)) el40 Due.enc_len Due.enc_cell rfl rfl rfl Try.underlying44 Try.underlying44 rfl rfl (by repeat constructor) (RowsAt.cutOwn (i := 0) (j := j) Due.enc_len hh2 (by repeat constructor) (by omega) (by omega)) (by first | omega | (simp <;> omega))) (by kernel_rfl) ?_
      rintro sl56 _ rfl
      refine ⟨?_, ?_⟩
      ·rw [List.forall_mem_cons, List.forall_mem_cons]
       refine ⟨?_, ?_, fun _ h => (by cases h)⟩
       ·exact Look.mk rfl rfl rfl (QR.load1 (v := .slice _ L1.length _) rfl rfl g44 (Ref04Queue.sub_l _))
       ·exact Look.mk rfl rfl rfl (QR.load rfl rfl g40 (Due.enc_sub _))
      refine ?_
      refine Dw.slCase (v := sl56) (by repeat constructor) (fun a56 c56 hv56 hh56 => ?_)
      subst hv56
      refine Dw.eff (i := 10) (by kernel_rfl) (by kernel_rfl) ?_
      refine One.mk (o := _) (l := [15, 5]) rfl (by kernel_rfl) (Want.none rfl) rfl (ltN rfl) (EF.buildSlice1 rfl Try.underlying44 z40 zero40 (by simp [Value.cells, Due.enc_len]) (by decide) rfl rfl (Due.enc_len _) (by decide)) (by kernel_rfl) ?_
      rintro _ _ ⟨b58, rfl, rfl⟩
      refine ⟨?_, ?_⟩
      ·rw [List.forall_mem_cons, List.forall_mem_cons]
       refine ⟨?_, ?_, fun _ h => (by cases h)⟩
       ·exact Look.mk rfl rfl rfl (QR.load1 (v := .slice _ L1.length _) rfl rfl g44 (Ref04Queue.sub_l _))
       ·exact Look.mk rfl rfl rfl (QR.load1 (v := .slice _ L1.length _) rfl rfl g44 (Ref04Queue.sub_l _))
      refine ?_
      refine Dw.eff (i := 11) (by kernel_rfl) (by kernel_rfl) ?_
      refine One.mk (o := _) (l := [15]) rfl (by kernel_rfl) (Want.none rfl) rfl (ltN rfl) (EF.append1 (xs := _) (s := (⟨s, t⟩ : Due)) el40 Due.enc_len Due.enc_cell rfl rfl rfl Try.underlying44 Try.underlying44 rfl rfl (by repeat constructor) (by repeat constructor) (by first | omega | (simp <;> omega))) (by kernel_rfl) ?_
      rintro sl59 _ rfl
      refine ⟨?_, ?_⟩
      ·rw [List.forall_mem_cons]
       refine ⟨?_, fun _ h => (by cases h)⟩
       ·exact Look.mk rfl rfl rfl (QR.load1 (v := .slice _ L1.length _) rfl rfl g44 (Ref04Queue.sub_l _))
      refine ?_
      refine Dw.slCase (v := sl59) (by repeat constructor) (fun a59 c59 hv59 hh59 => ?_)
      subst hv59
      refine Dw.eff (i := 18) (by kernel_rfl) (by kernel_rfl) ?_
      refine One.mk (o := _) (l := []) rfl (by kernel_rfl) (Want.none rfl) rfl (ltN rfl) (EF.append (xs := _) (ys := ((L1.take L1.length).drop j)) el40 Due.enc_len Due.enc_cell rfl rfl rfl Try.underlying44 Try.underlying44 rfl rfl (by repeat constructor) (RowsAt.cutOwn (i := j) (j := L1.length) Due.enc_len hh2 (by repeat constructor) (by omega) (by omega)) (by first | omega | (simp <;> omega))) (by kernel_rfl) ?_
      rintro sl66 _ rfl
      refine ⟨fun _ h => (by cases h), ?_⟩
      refine Dw.slCase (v := sl66) (by repeat constructor) (fun a66 c66 hv66 hh66 => ?_)
      subst hv66
      refine Dw.pure (i := 19) rfl (by kernel_rfl) (Want.none rfl) rfl (ltN rfl) (QP.nilCheck rfl rfl) ?_
      refine Dw.pure (i := 20) rfl (by kernel_rfl) (Want.none rfl) rfl (ltN rfl) (QP.fieldAddr rfl rfl f52_0) ?_
      refine Dw.eff (i := 21) (by kernel_rfl) (by kernel_rfl) ?_
      refine One.act (o := _) (l := []) rfl (by kernel_rfl) (Want.none rfl) rfl (EF.store rfl rfl rfl z44 (Ref04Queue.set_l _ ⟨a66, _, c66⟩) (cell_one rfl)) (by kernel_rfl) ?_
      rintro _ _ rfl
      refine ⟨fun _ h => (by cases h), ?_⟩
      refine Dw.nil (by kernel_rfl) ?_
      refine hk16 _ _ ?_
      refine Run.seq fun k17 hk17 => ?_
      refine Run.region ?_
      show Sq _ _ _ [0] _ _ _ _
      refine Sq.quiet (i := 0) rfl (Want.none rfl) rfl (ltN rfl) (QP.assign rfl rfl).read ?_
      refine Sq.nil ?_
      refine hk17 _ _ ?_
      refine Run.ret ?_
      have e : setR L s t = (0, setD L s t) := by unfold setR; rw [if_neg (fun ⟨h1, h2⟩ => by rcases hf11 with ⟨h, _⟩ | ⟨i, x, _, h, hx⟩; omega; rw [← hx, has_of (List.mem_of_getElem? h)] at h1; cases h1)]
      have e2 : setD L s t = (([] ++ (L1.take j).drop 0) ++ [(⟨s, t⟩ : Due)]) ++ (L1.take L1.length).drop j := by rw [cut_ins, ins_eq hjl hbef haft, hL1]; rfl
      rw [e, e2]
      exact J.ends (res_tmp rfl rfl) (.cons (by repeat constructor) (.cons (by repeat constructor) Takes.nil)) ⟨_, _, rfl, rfl⟩
     ·skip
      refine One.mk (o := _) (l := [15, 5]) rfl (by kernel_rfl) (Want.none rfl) rfl (ltN rfl) (EF.buildSlice1 rfl Try.underlying44 z40 zero40 (by simp [Value.cells, Due.enc_len]) (by decide) rfl rfl (Due.enc_len _) (by decide)) (by kernel_rfl) ?_
      rintro _ _ ⟨b58, rfl, rfl⟩
      refine ⟨?_, ?_⟩
      ·rw [List.forall_mem_cons, List.forall_mem_cons]
       refine ⟨?_, ?_, fun _ h => (by cases h)⟩
       ·exact Look.mk rfl rfl rfl (QR.load1 (v := .slice _ L1.length _) rfl rfl g44 (Ref04Queue.sub_l _))
       ·exact Look.mk rfl rfl rfl (QR.load1 (v := .slice _ L1.length _) rfl rfl g44 (Ref04Queue.sub_l _))
      refine ?_
      refine Dw.eff (i := 8) (by kernel_rfl) (by kernel_rfl) ?_
      refine One.mk (o := _) (l := [15, 9]) rfl (by kernel_rfl) (Want.none rfl) rfl (ltN rfl) (EF.append (xs := []) (ys := ((L1.take j).drop 0)) el40 Due.enc_len Due.enc_cell rfl rfl rfl Try.underlying44 Try.underlying44 rfl rfl (by repeat constructor) (RowsAt.cutOwn (i := 0) (j := j) Due.enc_len hh2 (by repeat constructor) (by omega) (by omega)) (by first | omega | (simp <;> omega))) (by kernel_rfl) ?_
      rintro sl56 _ rfl
      refine ⟨?_, ?_⟩
      ·rw [List.forall_mem_cons, List.forall_mem_cons]
       refine ⟨?_, ?_, fun _ h => (by cases h)⟩
       ·exact Look.mk rfl rfl rfl (QR.load1 (v := .slice _ L1.length _) rfl rfl g44 (Ref04Queue.sub_l _))
       ·exact Look.mk rfl rfl rfl (QR.load rfl rfl g40 (Due.enc_sub _))
      refine ?_
      refine Dw.slCase (v := sl56) (by repeat constructor) (fun a56 c56 hv56 hh56 => ?_)
      subst hv56
      refine Dw.eff (i := 11) (by kernel_rfl) (by kernel_rfl) ?_
      refine One.mk (o := _) (l := [15]) rfl (by kernel_rfl) (Want.none rfl) rfl (ltN rfl) (EF.append1 (xs := _) (s := (⟨s, t⟩ : Due)) el40 Due.enc_len Due.enc_cell rfl rfl rfl Try.underlying44 Try.underlying44 rfl rfl (by repeat constructor) (by repeat constructor) (by first | omega | (simp <;> omega))) (by kernel_rfl) ?_
      rintro sl59 _ rfl
      refine ⟨?_, ?_⟩
      ·rw [List.forall_mem_cons]
       refine ⟨?_, fun _ h => (by cases h)⟩
       ·exact Look.mk rfl rfl rfl (QR.load1 (v := .slice _ L1.length _) rfl rfl g44 (Ref04Queue.sub_l _))
      refine ?_
      refine Dw.slCase (v := sl59) (by repeat constructor) (fun a59 c59 hv59 hh59 => ?_)
      subst hv59
      refine Dw.eff (i := 18) (by kernel_rfl) (by kernel_rfl) ?_
      refine One.mk (o := _) (l := []) rfl (by kernel_rfl) (Want.none rfl) rfl (ltN rfl) (EF.append (xs := _) (ys := ((L1.take L1.length).drop j)) el40 Due.enc_len Due.enc_cell rfl rfl rfl Try.underlying44 Try.underlying44 rfl rfl (by repeat constructor) (RowsAt.cutOwn (i := j) (j := L1.length) Due.enc_len hh2 (by repeat constructor) (by omega) (by omega)) (by first | omega | (simp <;> omega))) (by kernel_rfl) ?_
      rintro sl66 _ rfl
      refine ⟨fun _ h => (by cases h), ?_⟩
      refine Dw.slCase (v := sl66) (by repeat constructor) (fun a66 c66 hv66 hh66 => ?_)
      subst hv66
      refine Dw.pure (i := 19) rfl (by kernel_rfl) (Want.none rfl) rfl (ltN rfl) (QP.nilCheck rfl rfl) ?_
      refine Dw.pure (i := 20) rfl (by kernel_rfl) (Want.none rfl) rfl (ltN rfl) (QP.fieldAddr rfl rfl f52_0) ?_
      refine Dw.eff (i := 21) (by kernel_rfl) (by kernel_rfl) ?_
      refine One.act (o := _) (l := []) rfl (by kernel_rfl) (Want.none rfl) rfl (EF.store rfl rfl rfl z44 (Ref04Queue.set_l _ ⟨a66, _, c66⟩) (cell_one rfl)) (by kernel_rfl) ?_
      rintro _ _ rfl
      refine ⟨fun _ h => (by cases h), ?_⟩
      refine Dw.nil (by kernel_rfl) ?_
      refine hk16 _ _ ?_
      refine Run.seq fun k18 hk18 => ?_
      refine Run.region ?_
      show Sq _ _ _ [0] _ _ _ _
      refine Sq.quiet (i := 0) rfl (Want.none rfl) rfl (ltN rfl) (QP.assign rfl rfl).read ?_
      refine Sq.nil ?_
      refine hk18 _ _ ?_
      refine Run.ret ?_
      have e : setR L s t = (0, setD L s t) := by unfold setR; rw [if_neg (fun ⟨h1, h2⟩ => by rcases hf11 with ⟨h, _⟩ | ⟨i, x, _, h, hx⟩; omega; rw [← hx, has_of (List.mem_of_getElem? h)] at h1; cases h1)]
      have e2 : setD L s t = (([] ++ (L1.take j).drop 0) ++ [(⟨s, t⟩ : Due)]) ++ (L1.take L1.length).drop j := by rw [cut_ins, ins_eq hjl hbef haft, hL1]; rfl
      rw [e, e2]
      exact J.ends (res_tmp rfl rfl) (.cons (by repeat constructor) (.cons (by repeat constructor) Takes.nil)) ⟨_, _, rfl, rfl⟩
    ·skip
     refine One.mk (o := _) (l := [15, 5]) rfl (by kernel_rfl) (Want.none rfl) rfl (ltN rfl) (EF.buildSlice1 rfl Try.underlying44 z40 zero40 (by simp [Value.cells, Due.enc_len]) (by decide) rfl rfl (Due.enc_len _) (by decide)) (by kernel_rfl) ?_
     rintro _ _ ⟨b58, rfl, rfl⟩
     refine ⟨?_, ?_⟩
     ·rw [List.forall_mem_cons, List.forall_mem_cons]
      refine ⟨?_, ?_, fun _ h => (by cases h)⟩
      ·exact Look.mk rfl rfl rfl (QR.load1 (v := .slice _ L1.length _) rfl rfl g44 (Ref04Queue.sub_l _))
      ·exact Look.mk rfl rfl rfl (QR.load1 (v := .slice _ L1.length _) rfl rfl g44 (Ref04Queue.sub_l _))
     refine ?_
     refine Dw.eff (i := 1) (by kernel_rfl) (by kernel_rfl) ?_
     refine One.mk (o := _) (l := [15, 9, 5]) rfl (by kernel_rfl) (Want.none rfl) rfl (ltN rfl) (EF.buildSlice0 (enc := Due.enc) rfl Try.underlying44 z40 zero40 (by simp [Value.cells, Due.enc_len]) (by decide)) (by kernel_rfl) ?_
     rintro _ _ ⟨b49, rfl, rfl⟩
     refine ⟨?_, ?_⟩
     ·rw [List.forall_mem_cons, List.forall_mem_cons, List.forall_mem_cons]
      refine ⟨?_, ?_, ?_, fun _ h => (by cases h)⟩
      ·exact Look.mk rfl rfl rfl (QR.load1 (v := .slice _ L1.length _) rfl rfl g44 (Ref04Queue.sub_l _))
      ·exact Look.mk rfl rfl rfl (QR.load rfl rfl g40 (Due.enc_sub _))
      ·exact Look.mk rfl rfl rfl (QR.load1 (v := .slice _ L1.length _) rfl rfl g44 (Ref04Queue.sub_l _))
     refine ?_
     refine Dw.eff (i := 8) (by kernel_rfl) (by kernel_rfl) ?_
     refine One.mk (o := _) (l := [15, 9]) rfl (by kernel_rfl) (Want.none rfl) rfl (ltN rfl) (EF.append (xs := []) (ys := ((L1.take j).drop 0)) el40 Due.enc_len Due.enc_cell rfl rfl rfl Try.underlying44 Try.underlying44 rfl rfl (by repeat constructor) (RowsAt.cutOwn (i := 0) (j := j) Due.enc_len hh2 (by repeat constructor) (by omega) (by omega)) (by first | omega | (simp <;> omega))) (by kernel_rfl) ?_
     rintro sl56 _ rfl
     refine ⟨?_, ?_⟩
     ·rw [List.forall_mem_cons, List.forall_mem_cons]
      refine ⟨?_, ?_, fun _ h => (by cases h)⟩
      ·exact Look.mk rfl rfl rfl (QR.load1 (v := .slice _ L1.length _) rfl rfl g44 (Ref04Queue.sub_l _))
      ·exact Look.mk rfl rfl rfl (QR.load rfl rfl g40 (Due.enc_sub _))
     refine ?_
     refine Dw.slCase (v := sl56) (by repeat constructor) (fun a56 c56 hv56 hh56 => ?_)
     subst hv56
     refine Dw.eff (i := 11) (by kernel_rfl) (by kernel_rfl) ?_
     refine One.mk (o := _) (l := [15]) rfl (by kernel_rfl) (Want.none rfl) rfl (ltN rfl) (EF.append1 (xs := _) (s := (⟨s, t⟩ : Due)) el40 Due.enc_len Due.enc_cell rfl rfl rfl Try.underlying44 Try.underlying44 rfl rfl (by repeat constructor) (by repeat constructor) (by first | omega | (simp <;> omega))) (by kernel_rfl) ?_
     rintro sl59 _ rfl
     refine ⟨?_, ?_⟩
     ·rw [List.forall_mem_cons]
      refine ⟨?_, fun _ h => (by cases h)⟩
      ·exact Look.mk rfl rfl rfl (QR.load1 (v := .slice _ L1.length _) rfl rfl g44 (Ref04Queue.sub_l _))
     refine ?_
     refine Dw.slCase (v := sl59) (by repeat constructor) (fun a59 c59 hv59 hh59 => ?_)
     subst hv59
     refine Dw.eff (i := 18) (by kernel_rfl) (by kernel_rfl) ?_
     refine One.mk (o := _) (l := []) rfl (by kernel_rfl) (Want.none rfl) rfl (ltN rfl) (EF.append (xs := _) (ys := ((L1.take L1.length).drop j)) el40 Due.enc_len Due.enc_cell rfl rfl rfl Try.underlying44 Try.underlying44 rfl rfl (by repeat constructor) (RowsAt.cutOwn (i := j) (j := L1.length) Due.enc_len hh2 (by repeat constructor) (by omega) (by omega)) (by first | omega | (simp <;> omega))) (by kernel_rfl) ?_
     rintro sl66 _ rfl
     refine ⟨fun _ h => (by cases h), ?_⟩
     refine Dw.slCase (v := sl66) (by repeat constructor) (fun a66 c66 hv66 hh66 => ?_)
     subst hv66
     refine Dw.pure (i := 19) rfl (by kernel_rfl) (Want.none rfl) rfl (ltN rfl) (QP.nilCheck rfl rfl) ?_
     refine Dw.pure (i := 20) rfl (by kernel_rfl) (Want.none rfl) rfl (ltN rfl) (QP.fieldAddr rfl rfl f52_0) ?_
     refine Dw.eff (i := 21) (by kernel_rfl) (by kernel_rfl) ?_
     refine One.act (o := _) (l := []) rfl (by kernel_rfl) (Want.none rfl) rfl (EF.store rfl rfl rfl z44 (Ref04Queue.set_l _ ⟨a66, _, c66⟩) (cell_one rfl)) (by kernel_rfl) ?_
     rintro _ _ rfl
     refine ⟨fun _ h => (by cases h), ?_⟩
     refine Dw.nil (by kernel_rfl) ?_
     refine hk16 _ _ ?_
     refine Run.seq fun k19 hk19 => ?_
     refine Run.region ?_
     show Sq _ _ _ [0] _ _ _ _
     refine Sq.quiet (i := 0) rfl (Want.none rfl) rfl (ltN rfl) (QP.assign rfl rfl).read ?_
     refine Sq.nil ?_
     refine hk19 _ _ ?_
     refine Run.ret ?_
     have e : setR L s t = (0, setD L s t) := by unfold setR; rw [if_neg (fun ⟨h1, h2⟩ => by rcases hf11 with ⟨h, _⟩ | ⟨i, x, _, h, hx⟩; omega; rw [← hx, has_of (List.mem_of_getElem? h)] at h1; cases h1)]
     have e2 : setD L s t = (([] ++ (L1.take j).drop 0) ++ [(⟨s, t⟩ : Due)]) ++ (L1.take L1.length).drop j := by rw [cut_ins, ins_eq hjl hbef haft, hL1]; rfl
     rw [e, e2]
     exact J.ends (res_tmp rfl rfl) (.cons (by repeat constructor) (.cons (by repeat constructor) Takes.nil)) ⟨_, _, rfl, rfl⟩
 ·skip
  refine Sq.quiet (i := 4) rfl (Want.none rfl) rfl (ltN rfl) (QP.move rfl rfl).read ?_
  refine Sq.skip (i := 5) rfl (Want.no rfl rfl rfl rfl) rfl (ltN rfl) ?_
  refine Sq.skip (i := 6) rfl (Want.no rfl rfl rfl rfl) rfl (ltN rfl) ?_
  refine Sq.skip (i := 7) rfl (Want.no rfl rfl rfl rfl) rfl (ltN rfl) ?_
  refine Sq.skip (i := 8) rfl (Want.no rfl rfl rfl rfl) rfl (ltN rfl) ?_
  refine Sq.skip (i := 9) rfl (Want.no rfl rfl rfl rfl) rfl (ltN rfl) ?_
  refine Sq.skip (i := 10) rfl (Want.no rfl rfl rfl rfl) rfl (ltN rfl) ?_
  refine Sq.quiet (i := 11) rfl (Want.none rfl) rfl (ltN rfl) (QP.pick_f rfl rfl rfl).read ?_
  refine Sq.nil ?_
  refine hk3 _ _ ?_
  refine Run.cond_f rfl ?_
  refine Run.skip ?_
  refine hk2 _ _ ?_
  refine Run.seq fun k20 hk20 => ?_
  refine Run.region ?_
  show Sq _ _ _ [0, 1, 2] _ _ _ _
  refine Sq.quiet (i := 0) rfl (Want.none rfl) rfl (ltN rfl) (QP.move rfl rfl).read ?_
  refine Sq.quiet (i := 1) rfl (Want.none rfl) rfl (ltN rfl) (QP.move rfl rfl).read ?_
  refine Sq.eff (i := 2) rfl (Want.none rfl) rfl (ltN rfl) (EF.call rfl ce23 rfl (.cons (by repeat constructor) (.cons (by repeat constructor) Takes.nil)) (fun F' hle hr => rcancel_spec F' (by omega) hG.nodup s)) ?_
  rintro _ _ ⟨_, ⟨a2, c2, rfl, rfl⟩, rfl⟩
  refine J.app ?_
  refine Sq.nil ?_
  refine hk20 _ _ ?_
  refine Run.seq fun k21 hk21 => ?_
  refine Run.region ?_
  show Sq _ _ _ [0, 1, 2, 3, 4] _ _ _ _
  obtain ⟨L1, hL1⟩ : ∃ L1, L1 = delD L s := ⟨_, rfl⟩
  rw [← hL1]
  have hd1 := del_len L s
  rw [← hL1] at hd1
  have hs1 : L1.Pairwise (fun a b => cmpDue a b < 0) := by rw [hL1]; exact del_sort hG.sort
  have hne1 : ∀ y ∈ L1, y ≠ (⟨s, t⟩ : Due) := fun y hy he => by rw [hL1] at hy; have := (List.mem_filter.1 hy).2; rw [he] at this; simp at this
  refine J.slCase (v := .slice a2 L1.length c2) (xs := L1) (by repeat constructor) (fun a3 c3 hv3 hh2 => ?_)
  cases hv3
  have hcle2 := hh2.le
  refine Sq.quiet (i := 0) rfl (Want.none rfl) rfl (ltN rfl) (QP.move rfl rfl).read ?_
  refine Sq.quiet (i := 1) rfl (Want.none rfl) rfl (ltN rfl) (QP.move rfl rfl).read ?_
  refine Sq.quiet (i := 2) rfl (Want.none rfl) rfl (ltN rfl) (QP.build (l := Due.enc ⟨s, t⟩) rfl st40 rfl (by exact ⟨rfl, ⟨rfl, trivial⟩⟩) rfl).read ?_
  refine Sq.eff (i := 3) rfl (Want.none rfl) rfl (ltN rfl) (EF.allocA (l := Due.enc Due.zero) rfl zero40) ?_
  rintro _ _ ⟨b7, rfl, rfl⟩
  refine Sq.act (i := 4) rfl (Want.none rfl) rfl (EF.storeA rfl rfl rfl z40 (SetL.all (Due.enc_len _) (Due.enc_len _)) (Due.enc_cell _)) ?_
  rintro _ _ rfl
  refine Sq.nil ?_
  refine hk21 _ _ ?_
  refine Run.seq fun k22 hk22 => ?_
  refine Run.region ?_
  show Sq _ _ _ [0, 1, 2, 3, 4, 5] _ _ _ _
  refine Sq.quiet (i := 0) rfl (Want.none rfl) rfl (ltN rfl) (QP.move rfl rfl).read ?_
  refine Sq.quiet (i := 1) rfl (Want.none rfl) rfl (ltN rfl) (QP.nilCheck rfl rfl).read ?_
  refine Sq.quiet (i := 2) rfl (Want.none rfl) rfl (ltN rfl) (QP.fieldAddr rfl rfl f52_0).read ?_
  refine Sq.quiet (i := 3) rfl (Want.none rfl) rfl (ltN rfl) (QR.load1 (v := .slice _ L1.length _) rfl rfl g44 (Ref04Queue.sub_l _)) ?_
  refine Sq.quiet (i := 4) rfl (Want.none rfl) rfl (ltN rfl) (QP.len rfl rfl rfl Try.underlying44).read ?_
  refine Sq.quiet (i := 5) rfl (Want.none rfl) rfl (ltN rfl) (QP.assign rfl rfl).read ?_
  refine Sq.nil ?_
  refine hk22 _ _ ?_
  refine Run.seq fun k23 hk23 => ?_
  refine Run.block ?_
  refine Run.loop1 (fun (j : Nat) => j ≤ L1.length ∧ ∀ y ∈ L1.drop j, cmpDue (⟨s, t⟩ : Due) y < 0) (fun j => .cons 0 (fp b) (.cons 7 (fp b7) (.cons 8 (.int .i64 j) (.nil)))) (fun j => [blk b (Ref04Queue.enc ⟨⟨a2, L1.length, c2⟩⟩) 52, slA 40 2 Due.enc (.slice a2 L1.length c2) L1, blk b7 (Due.enc (⟨s, t⟩ : Due)) 40]) (fun j => j) (L1.length) (⟨Nat.le_refl _, by simp⟩) ?_ ?_
  ·exact fun _ j => J.envJ (J.keep (.cons (by repeat constructor) (.cons (by repeat constructor) (.cons (by repeat constructor) Takes.nil))) j) ⟨rfl, rfl, rfl, trivial⟩
  rintro j ⟨hjl, haft⟩ kl24 hl24
  refine Run.seq fun k25 hk25 => ?_
  refine Run.seq fun k26 hk26 => ?_
  refine Run.regionD (M := [0, 1, 3, 7, 7, 23, 55, 119, 7, 263, 1015, 2039, 4095, 8191]) (q := 12287) (r := 2184) (by kernel_rfl) ?_
  refine Dw.pure (i := 0) rfl (by kernel_rfl) (Want.none rfl) rfl (ltN rfl) (QP.move rfl rfl) ?_
  refine Dw.pure (i := 1) rfl (by kernel_rfl) (Want.none rfl) rfl (ltN rfl) (QP.gtr rfl rfl rfl) ?_
  refine J.caseD (fun c33 => ?_) (fun c33 => ?_)
  ·skip
   refine Dw.pure (i := 2) rfl (by kernel_rfl) (Want.none rfl) rfl (ltN rfl) (QP.move rfl rfl) ?_
   obtain ⟨x, hi⟩ : ∃ x, L1[Int.toNat ((j : Int) - 1)]? = some x := ⟨_, List.getElem?_eq_getElem (by omega)⟩
   obtain ⟨b0, o0, rfl⟩ := hh2.get (by omega)
   refine Dw.read (i := 3) rfl (by kernel_rfl) (Want.yes rfl rfl rfl rfl) rfl (ltN rfl) (QR.load rfl rfl g40 (Due.enc_sub _)) ?_
   refine Dw.pure (i := 4) rfl (by kernel_rfl) (Want.yes rfl rfl rfl rfl) rfl (ltN rfl) (QP.move rfl rfl) ?_
   refine Dw.pure (i := 5) rfl (by kernel_rfl) (Want.yes rfl rfl rfl rfl) rfl (ltN rfl) (QP.nilCheck rfl rfl) ?_
   refine Dw.pure (i := 6) rfl (by kernel_rfl) (Want.yes rfl rfl rfl rfl) rfl (ltN rfl) (QP.fieldAddr rfl rfl f52_0) ?_
   refine Dw.read (i := 7) rfl (by kernel_rfl) (Want.yes rfl rfl rfl rfl) rfl (ltN rfl) (QR.load1 (v := .slice _ L1.length _) rfl rfl g44 (Ref04Queue.sub_l _)) ?_
   refine Dw.pure (i := 8) rfl (by kernel_rfl) (Want.yes rfl rfl rfl rfl) rfl (ltN rfl) (QP.move rfl rfl) ?_
   refine Dw.pure (i := 9) rfl (by kernel_rfl) (Want.yes rfl rfl rfl rfl) rfl (ltN rfl) (QP.sub64 rfl rfl rfl (by first | omega | (simp <;> omega)) (by first | omega | (simp <;> omega))) ?_
   refine Dw.pure (i := 10) rfl (by kernel_rfl) (Want.yes rfl rfl rfl rfl) rfl (ltN rfl) (QP.indexAddr rfl rfl rfl Try.underlying44 z40 (by first | omega | (simp <;> omega)) (by first | omega | (simp <;> omega))) ?_
   refine Dw.read (i := 11) rfl (by kernel_rfl) (Want.yes rfl rfl rfl rfl) rfl (ltN rfl) (QR.loadSl rfl rfl g40 Due.enc_len (SlAt.own Due.enc_len (by repeat constructor)) hi) ?_
   refine Dw.eff (i := 12) (by kernel_rfl) (by kernel_rfl) ?_
   refine One.mk (o := _) (l := []) rfl (by kernel_rfl) (Want.yes rfl rfl rfl rfl) rfl (ltN rfl) (EF.call rfl ce32 rfl Takes.nil (fun F' hle hr => ahead_spec F' (⟨s, t⟩ : Due) x)) (by kernel_rfl) ?_
   rintro _ _ ⟨_, ⟨rfl, rfl⟩, rfl⟩
   refine ⟨fun _ h => (by cases h), ?_⟩
   refine J.app ?_
   refine J.caseB (fun c44 => ?_) (fun c44 => ?_)
   ·skip
    refine Dw.pure (i := 13) rfl (by kernel_rfl) (Want.none rfl) rfl (ltN rfl) (QP.pick_t rfl rfl rfl) ?_
    refine Dw.nil (by kernel_rfl) ?_
    refine hk26 _ _ ?_
    refine Run.cond_t rfl ?_
    refine Run.skip ?_
    refine hk25 _ _ ?_
    refine Run.block ?_
    refine Run.region ?_
    show Sq _ _ _ [0, 1, 2] _ _ _ _
    refine Sq.quiet (i := 0) rfl (Want.none rfl) rfl (ltN rfl) (QP.move rfl rfl).read ?_
    refine Sq.quiet (i := 1) rfl (Want.none rfl) rfl (ltN rfl) (QP.sub64 rfl rfl rfl (by first | omega | (simp <;> omega)) (by first | omega | (simp <;> omega))).read ?_
    refine Sq.quiet (i := 2) rfl (Want.none rfl) rfl (ltN rfl) (QP.assign rfl rfl).read ?_
    refine Sq.nil ?_
    exact J.envJ (J.keep (.cons (by repeat constructor) (.cons (by repeat constructor) (.cons (by repeat constructor) Takes.nil))) (hl24 (j - 1) (⟨by omega, behind_d (by omega) hi (by simpa using c44) haft⟩) (by omega))) ⟨rfl, rfl, (congrArg (fun n => some (Value.int .i64 n)) (show _ = _ by omega)), trivial⟩
   ·skip
    refine Dw.pure (i := 13) rfl (by kernel_rfl) (Want.none rfl) rfl (ltN rfl) (QP.pick_t rfl rfl rfl) ?_
    refine Dw.nil (by kernel_rfl) ?_
    refine hk26 _ _ ?_
    refine Run.cond_f rfl ?_
    refine Run.exit rfl ?_
    refine hk23 _ _ ?_
    refine Run.seq fun k27 hk27 => ?_
    refine Run.regionD (M := [0, 0, 0, 4, 12, 28, 0, 124, 254, 0, 512, 2046, 0, 4096, 12288, 28672, 0, 126976, 262142, 524287, 1048575, 2097151]) (q := 1831677) (r := 33312) (by kernel_rfl) ?_
    have hbef : ∀ y ∈ L1.take j, cmpDue y (⟨s, t⟩ : Due) < 0 := before_d hs1 (by omega) hi (by simpa using c44) (hne1 x (List.mem_of_getElem? hi))
    refine Dw.pure (i := 0) rfl (by kernel_rfl) (Want.none rfl) rfl (ltN rfl) (QP.move rfl rfl) ?_
    refine Dw.pure (i := 2) rfl (by kernel_rfl) (Want.none rfl) rfl (ltN rfl) (QP.move rfl rfl) ?_
    refine Dw.pure (i := 3) rfl (by kernel_rfl) (Want.none rfl) rfl (ltN rfl) (QP.nilCheck rfl rfl) ?_
    refine Dw.pure (i := 4) rfl (by kernel_rfl) (Want.none rfl) rfl (ltN rfl) (QP.fieldAddr rfl rfl f52_0) ?_
    refine Dw.read (i := 5) rfl (by kernel_rfl) (Want.none rfl) rfl (ltN rfl) (QR.load1 (v := .slice _ L1.length _) rfl rfl g44 (Ref04Queue.sub_l _)) ?_
    refine Dw.pure (i := 6) rfl (by kernel_rfl) (Want.none rfl) rfl (ltN rfl) (QP.move rfl rfl) ?_
    refine Dw.pure (i := 7) rfl (by kernel_rfl) (Want.none rfl) rfl (ltN rfl) (QP.sliceHi rfl rfl rfl Try.underlying44 z40 (by first | omega | (simp <;> omega)) (by first | omega | (simp <;> omega))) ?_
    refine Dw.read (i := 9) rfl (by kernel_rfl) (Want.none rfl) rfl (ltN rfl) (QR.load rfl rfl g40 (Due.enc_sub _)) ?_
    refine Dw.pure (i := 12) rfl (by kernel_rfl) (Want.none rfl) rfl (ltN rfl) (QP.move rfl rfl) ?_
    refine Dw.pure (i := 13) rfl (by kernel_rfl) (Want.none rfl) rfl (ltN rfl) (QP.nilCheck rfl rfl) ?_
    refine Dw.pure (i := 14) rfl (by kernel_rfl) (Want.none rfl) rfl (ltN rfl) (QP.fieldAddr rfl rfl f52_0) ?_
    refine Dw.read (i := 15) rfl (by kernel_rfl) (Want.none rfl) rfl (ltN rfl) (QR.load1 (v := .slice _ L1.length _) rfl rfl g44 (Ref04Queue.sub_l _)) ?_
    refine Dw.pure (i := 16) rfl (by kernel_rfl) (Want.none rfl) rfl (ltN rfl) (QP.move rfl rfl) ?_
    refine Dw.pure (i := 17) rfl (by kernel_rfl) (Want.none rfl) rfl (ltN rfl) (QP.sliceLo rfl rfl rfl Try.underlying44 z40 (by first | omega | (simp <;> omega)) (by first | omega | (simp <;> omega))) ?_
    refine Dw.effs (l := [1, 10]) (by kernel_rfl) (by kernel_rfl) ?_
    rw [List.forall_mem_cons, List.forall_mem_cons]
    refine ⟨?_, ?_, fun _ h => (by cases h)⟩
    ·skip
     refine One.mk (o := _) (l := [15, 9, 5]) rfl (by kernel_rfl) (Want.none rfl) rfl (ltN rfl) (EF.buildSlice0 (enc := Due.enc) rfl Try.underlying44 z40 zero40 (by simp [Value.cells, Due.enc_len]) (by decide)) (by kernel_rfl) ?_
     rintro _ _ ⟨b49, rfl, rfl⟩
     refine ⟨?_, ?_⟩
     ·rw [List.forall_mem_cons, List.forall_mem_cons, List.forall_mem_cons]
      refine ⟨?_, ?_, ?_, fun _ h => (by cases h)⟩
      ·exact Look.mk rfl rfl rfl (QR.load1 (v := .slice _ L1.length _) rfl rfl g44 (Ref04Queue.sub_l _))
      ·exact Look.mk rfl rfl rfl (QR.load rfl rfl g40 (Due.enc_sub _))
      ·exact Look.mk rfl rfl rfl (QR.load1 (v := .slice _ L1.length _) rfl rfl g44 (Ref04Queue.sub_l _))
     refine ?_
     refine Dw.effs (l := [8, 10]) (by kernel_rfl) (by kernel_rfl) ?_
     rw [List.forall_mem_cons, List.forall_mem_cons]
     refine ⟨?_, ?_, fun _ h => (by cases h)⟩
     ·skip
      refine One.mk (o := _) (l := [15, 9]) rfl (by kernel_rfl) (Want.none rfl) rfl (ltN rfl) (EF.append (xs := []) (ys := ((L1.take j).drop 0)) el40 Due.enc_len Due.enc_cell rfl rfl rfl Try.underlying44 Try.underlying44 rfl rfl (by repeat constructor) (RowsAt.cutOwn (i := 0) (j := j) Due.enc_len hh2 (by repeat constructor) (by omega) (by omega)) (by first | omega | (simp <;> omega))) (by kernel_rfl) ?_
      rintro sl56 _ rfl
      refine ⟨?_, ?_⟩
      ·rw [List.forall_mem_cons, List.forall_mem_cons]
       refine ⟨?_, ?_, fun _ h => (by cases h)⟩
       ·exact Look.mk rfl rfl rfl (QR.load1 (v := .slice _ L1.length _) rfl rfl g44 (Ref04Queue.sub_l _))
       ·exact Look.mk rfl rfl rfl (QR.load rfl rfl g40 (Due.enc_sub _))
      refine ?_
      refine Dw.slCase (v := sl56) (by repeat constructor) (fun a56 c56 hv56 hh56 => ?_)
      subst hv56
      refine Dw.eff (i := 10) (by kernel_rfl) (by kernel_rfl) ?_
      refine One.mk (o := _) (l := [15, 5]) rfl (by kernel_rfl) (Want.none rfl) rfl (ltN rfl) (EF.buildSlice1 rfl Try.underlying44 z40 zero40 (by simp [Value.cells, Due.enc_len]) (by decide) rfl rfl (Due.enc_len _) (by decide)) (by kernel_rfl) ?_
      rintro _ _ ⟨b58, rfl, rfl⟩
      refine ⟨?_, ?_⟩
      ·rw [List.forall_mem_cons, List.forall_mem_cons]
       refine ⟨?_, ?_, fun _ h => (by cases h)⟩
       ·exact Look.mk rfl rfl rfl (QR.load1 (v := .slice _ L1.length _) rfl rfl g44 (Ref04Queue.sub_l _))
       ·exact Look.mk rfl rfl rfl (QR.load1 (v := .slice _ L1.length _) rfl rfl g44 (Ref04Queue.sub_l _))
      refine ?_
      refine Dw.eff (i := 11) (by kernel_rfl) (by kernel_rfl) ?_
      refine One.mk (o := _) (l := [15]) rfl (by kernel_rfl) (Want.none rfl) rfl (ltN rfl) (EF.append1 (xs := _) (s := (⟨s, t⟩ : Due)) el40 Due.enc_len Due.enc_cell rfl rfl rfl Try.underlying44 Try.underlying44 rfl rfl (by repeat constructor) (by repeat constructor) (by first | omega | (simp <;> omega))) (by kernel_rfl) ?_
      rintro sl59 _ rfl
      refine ⟨?_, ?_⟩
      ·rw [List.forall_mem_cons]
       refine ⟨?_, fun _ h => (by cases h)⟩
       ·exact Look.mk rfl rfl rfl (QR.load1 (v := .slice _ L1.length _) rfl rfl g44 (Ref04Queue.sub_l _))
      refine ?_
      refine Dw.slCase (v := sl59) (by repeat constructor) (fun a59 c59 hv59 hh59 => ?_)
      subst hv59
      refine Dw.eff (i := 18) (by kernel_rfl) (by kernel_rfl) ?_
      refine One.mk (o := _) (l := []) rfl (by kernel_rfl) (Want.none rfl) rfl (ltN rfl) (EF.append (xs := _) (ys := ((L1.take L1.length).drop j)) el40 Due.enc_len Due.enc_cell rfl rfl rfl Try.underlying44 Try.underlying44 rfl rfl (by repeat constructor) (RowsAt.cutOwn (i := j) (j := L1.length) Due.enc_len hh2 (by repeat constructor) (by omega) (by omega)) (by first | omega | (simp <;> omega))) (by kernel_rfl) ?_
      rintro sl66 _ rfl
      refine ⟨fun _ h => (by cases h), ?_⟩
      refine Dw.slCase (v := sl66) (by repeat constructor) (fun a66 c66 hv66 hh66 => ?_)
      subst hv66
      refine Dw.pure (i := 19) rfl (by kernel_rfl) (Want.none rfl) rfl (ltN rfl) (QP.nilCheck rfl rfl) ?_
      refine Dw.pure (i := 20) rfl (by kernel_rfl) (Want.none rfl) rfl (ltN rfl) (QP.fieldAddr rfl rfl f52_0) ?_
      refine Dw.eff (i := 21) (by kernel_rfl) (by kernel_rfl) ?_
      refine One.act (o := _) (l := []) rfl (by kernel_rfl) (Want.none rfl) rfl (EF.store rfl rfl rfl z44 (Ref04Queue.set_l _ ⟨a66, _, c66⟩) (cell_one rfl)) (by kernel_rfl) ?_
      rintro _ _ rfl
      refine ⟨fun _ h => (by cases h), ?_⟩
      refine Dw.nil (by kernel_rfl) ?_
      refine hk27 _ _ ?_
      refine Run.seq fun k28 hk28 => ?_
      refine Run.region ?_
      show Sq _ _ _ [0] _ _ _ _
      refine Sq.quiet (i := 0) rfl (Want.none rfl) rfl (ltN rfl) (QP.assign rfl rfl).read ?_
      refine Sq.nil ?_
      refine hk28 _ _ ?_
      refine Run.ret ?_
      have e : setR L s t = (0, setD L s t) := by unfold setR; rw [if_neg (fun ⟨h1, h2⟩ => by rcases hf11 with ⟨h, _⟩ | ⟨i, x, _, h, hx⟩; omega; rw [← hx, has_of (List.mem_of_getElem? h)] at h1; cases h1)]
      have e2 : setD L s t = (([] ++ (L1.take j).drop 0) ++ [(⟨s, t⟩ : Due)]) ++ (L1.take L1.length).drop j := by rw [cut_ins, ins_eq hjl hbef haft, hL1]; rfl
      rw [e, e2]
      exact J.ends (res_tmp rfl rfl) (.cons (by repeat constructor) (.cons (by repeat constructor) Takes.nil)) ⟨_, _, rfl, rfl⟩
     ·skip
      refine One.mk (o := _) (l := [15, 5]) rfl (by kernel_rfl) (Want.none rfl) rfl (ltN rfl) (EF.buildSlice1 rfl Try.underlying44 z40 zero40 (by simp [Value.cells, Due.enc_len]) (by decide) rfl rfl (Due.enc_len _) (by decide)) (by kernel_rfl) ?_
      rintro _ _ ⟨b58, rfl, rfl⟩
      refine ⟨?_, ?_⟩
      ·rw [List.forall_mem_cons, List.forall_mem_cons]
       refine ⟨?_, ?_, fun _ h => (by cases h)⟩
       ·exact Look.mk rfl rfl rfl (QR.load1 (v := .slice _ L1.length _) rfl rfl g44 (Ref04Queue.sub_l _))
       ·exact Look.mk rfl rfl rfl (QR.load1 (v := .slice _ L1.length _) rfl rfl g44 (Ref04Queue.sub_l _))
      refine ?_
      refine Dw.eff (i := 8) (by kernel_rfl) (by kernel_rfl) ?_
      refine One.mk (o := _) (l := [15, 9]) rfl (by kernel_rfl) (Want.none rfl) rfl (ltN rfl) (EF.append (xs := []) (ys := ((L1.take j).drop 0)) el40 Due.enc_len Due.enc_cell rfl rfl rfl Try.underlying44 Try.underlying44 rfl rfl (by repeat constructor) (RowsAt.cutOwn (i := 0) (j := j) Due.enc_len hh2 (by repeat constructor) (by omega) (by omega)) (by first | omega | (simp <;> omega))) (by kernel_rfl) ?_
      rintro sl56 _ rfl
      refine ⟨?_, ?_⟩
      ·rw [List.forall_mem_cons, List.forall_mem_cons]
       refine ⟨?_, ?_, fun _ h => (by cases h)⟩
       ·exact Look.mk rfl rfl rfl (QR.load1 (v := .slice _ L1.length _) rfl rfl g44 (Ref04Queue.sub_l _))
       ·exact Look.mk rfl rfl rfl (QR.load rfl rfl g40 (Due.enc_sub _))
      refine ?_
      refine Dw.slCase (v := sl56) (by repeat constructor) (fun a56 c56 hv56 hh56 => ?_)
      subst hv56
      refine Dw.eff (i := 11) (by kernel_rfl) (by kernel_rfl) ?_
      refine One.mk (o := _) (l := [15]) rfl (by kernel_rfl) (Want.none rfl) rfl (ltN rfl) (EF.append1 (xs := _) (s := (⟨s, t⟩ : Due)) el40 Due.enc_len Due.enc_cell rfl rfl rfl Try.underlying44 Try.underlying44 rfl rfl (by repeat constructor) (by repeat constructor) (by first | omega | (simp <;> omega))) (by kernel_rfl) ?_
      rintro sl59 _ rfl
      refine ⟨?_, ?_⟩
      ·rw [List.forall_mem_cons]
       refine ⟨?_, fun _ h => (by cases h)⟩
       ·exact Look.mk rfl rfl rfl (QR.load1 (v := .slice _ L1.length _) rfl rfl g44 (Ref04Queue.sub_l _))
      refine ?_
      refine Dw.slCase (v := sl59) (by repeat constructor) (fun a59 c59 hv59 hh59 => ?_)
      subst hv59
      refine Dw.eff (i := 18) (by kernel_rfl) (by kernel_rfl) ?_
      refine One.mk (o := _) (l := []) rfl (by kernel_rfl) (Want.none rfl) rfl (ltN rfl) (EF.append (xs := _) (ys := ((L1.take L1.length).drop j)) el40 Due.enc_len Due.enc_cell rfl rfl rfl Try.underlying44 Try.underlying44 rfl rfl (by repeat constructor) (RowsAt.cutOwn (i := j) (j := L1.length) Due.enc_len hh2 (by repeat constructor) (by omega) (by omega)) (by first | omega | (simp <;> omega))) (by kernel_rfl) ?_
      rintro sl66 _ rfl
      refine ⟨fun _ h => (by cases h), ?_⟩
      refine Dw.slCase (v := sl66) (by repeat constructor) (fun a66 c66 hv66 hh66 => ?_)
      subst hv66
      refine Dw.pure (i := 19) rfl (by kernel_rfl) (Want.none rfl) rfl (ltN rfl) (QP.nilCheck rfl rfl) ?_
      refine Dw.pure (i := 20) rfl (by kernel_rfl) (Want.none rfl) rfl (ltN rfl) (QP.fieldAddr rfl rfl f52_0) ?_
      refine Dw.eff (i := 21) (by kernel_rfl) (by kernel_rfl) ?_
      refine One.act (o := _) (l := []) rfl (by kernel_rfl) (Want.none rfl) rfl (EF.store rfl rfl rfl z44 (Ref04Queue.set_l _ ⟨a66, _, c66⟩) (cell_one rfl)) (by kernel_rfl) ?_
      rintro _ _ rfl
      refine ⟨fun _ h => (by cases h), ?_⟩
      refine Dw.nil (by kernel_rfl) ?_
      refine hk27 _ _ ?_
      refine Run.seq fun k29 hk29 => ?_
      refine Run.region ?_
      show Sq _ _ _ [0] _ _ _ _
      refine Sq.quiet (i := 0) rfl (Want.none rfl) rfl (ltN rfl) (QP.assign rfl rfl).read ?_
      refine Sq.nil ?_
      refine hk29 _ _ ?_
      refine Run.ret ?_
      have e : setR L s t = (0, setD L s t) := by unfold setR; rw [if_neg (fun ⟨h1, h2⟩ => by rcases hf11 with ⟨h, _⟩ | ⟨i, x, _, h, hx⟩; omega; rw [← hx, has_of (List.mem_of_getElem? h)] at h1; cases h1)]
      have e2 : setD L s t = (([] ++ (L1.take j).drop 0) ++ [(⟨s, t⟩ : Due)]) ++ (L1.take L1.length).drop j := by rw [cut_ins, ins_eq hjl hbef haft, hL1]; rfl
      rw [e, e2]
      exact J.ends (res_tmp rfl rfl) (.cons (by repeat constructor) (.cons (by repeat constructor) Takes.nil)) ⟨_, _, rfl, rfl⟩
    ·skip
     refine One.mk (o := _) (l := [15, 5]) rfl (by kernel_rfl) (Want.none rfl) rfl (ltN rfl) (EF.buildSlice1 rfl Try.underlying44 z40 zero40 (by simp [Value.cells, Due.enc_len]) (by decide) rfl rfl (Due.enc_len _) (by decide)) (by kernel_rfl) ?_
     rintro _ _ ⟨b58, rfl, rfl⟩
     refine ⟨?_, ?_⟩
     ·rw [List.forall_mem_cons, List.forall_mem_cons]
      refine ⟨?_, ?_, fun _ h => (by cases h)⟩
      ·exact Look.mk rfl rfl rfl (QR.load1 (v := .slice _ L1.length _) rfl rfl g44 (Ref04Queue.sub_l _))
      ·exact Look.mk rfl rfl rfl (QR.load1 (v := .slice _ L1.length _) rfl rfl g44 (Ref04Queue.sub_l _))
     refine ?_
     refine Dw.eff (i := 1) (by kernel_rfl) (by kernel_rfl) ?_
     refine One.mk (o := _) (l := [15, 9, 5]) rfl (by kernel_rfl) (Want.none rfl) rfl (ltN rfl) (EF.buildSlice0 (enc := Due.enc) rfl Try.underlying44 z40 zero40 (by simp [Value.cells, Due.enc_len]) (by decide)) (by kernel_rfl) ?_
     rintro _ _ ⟨b49, rfl, rfl⟩
     refine ⟨?_, ?_⟩
     ·rw [List.forall_mem_cons, List.forall_mem_cons, List.forall_mem_cons]
      refine ⟨?_, ?_, ?_, fun _ h => (by cases h)⟩
      ·exact Look.mk rfl rfl rfl (QR.load1 (v := .slice _ L1.length _) rfl rfl g44 (Ref04Queue.sub_l _))
      ·exact Look.mk rfl rfl rfl (QR.load rfl rfl g40 (Due.enc_sub _))
      ·exact Look.mk rfl rfl rfl (QR.load1 (v := .slice _ L1.length _) rfl rfl g44 (Ref04Queue.sub_l _))
     refine ?_
     refine Dw.eff (i := 8) (by kernel_rfl) (by kernel_rfl) ?_
     refine One.mk (o := _) (l := [15, 9]) rfl (by kernel_rfl) (Want.none rfl) rfl (ltN rfl) (EF.append (xs := []) (ys := ((L1.take j).drop 0)) el40 Due.enc_len Due.enc_cell rfl rfl rfl Try.underlying44 Try.underlying44 rfl rfl (by repeat constructor) (RowsAt.cutOwn (i := 0) (j := j) Due.enc_len hh2 (by repeat constructor) (by omega) (by omega)) (by first | omega | (simp <;> omega))) (by kernel_rfl) ?_
     rintro sl56 _ rfl
     refine ⟨?_, ?_⟩
     ·rw [List.forall_mem_cons, List.forall_mem_cons]
      refine ⟨?_, ?_, fun _ h => (by cases h)⟩
      ·exact Look.mk rfl rfl rfl (QR.load1 (v := .slice _ L1.length _) rfl rfl g44 (Ref04Queue.sub_l _))
      ·exact Look.mk rfl rfl rfl (QR.load rfl rfl g40 (Due.enc_sub _))
     refine ?_
     refine Dw.slCase (v := sl56) (by repeat constructor) (fun a56 c56 hv56 hh56 => ?_)
     subst hv56
     refine Dw.eff (i := 11) (by kernel_rfl) (by kernel_rfl) ?_
     refine One.mk (o := _) (l := [15]) rfl (by kernel_rfl) (Want.none rfl) rfl (ltN rfl) (EF.append1 (xs := _) (s := (⟨s, t⟩ : Due)) el40 Due.enc_len Due.enc_cell rfl rfl rfl Try.underlying44 Try.underlying44 rfl rfl (by repeat constructor) (by repeat constructor) (by first | omega | (simp <;> omega))) (by kernel_rfl) ?_
     rintro sl59 _ rfl
     refine ⟨?_, ?_⟩
     ·rw [List.forall_mem_cons]
      refine ⟨?_, fun _ h => (by cases h)⟩
      ·exact Look.mk rfl rfl rfl (QR.load1 (v := .slice _ L1.length _) rfl rfl g44 (Ref04Queue.sub_l _))
     refine ?_
     refine Dw.slCase (v := sl59) (by repeat constructor) (fun a59 c59 hv59 hh59 => ?_)
     subst hv59
     refine Dw.eff (i := 18) (by kernel_rfl) (by kernel_rfl) ?_
     refine One.mk (o := _) (l := []) rfl (by kernel_rfl) (Want.none rfl) rfl (ltN rfl) (EF.append (xs := _) (ys := ((L1.take L1.length).drop j)) el40 Due.enc_len Due.enc_cell rfl rfl rfl Try.underlying44 Try.underlying44 rfl rfl (by repeat constructor) (RowsAt.cutOwn (i := j) (j := L1.length) Due.enc_len hh2 (by repeat constructor) (by omega) (by omega)) (by first | omega | (simp <;> omega))) (by kernel_rfl) ?_
     rintro sl66 _ rfl
     refine ⟨fun _ h => (by cases h), ?_⟩
     refine Dw.slCase (v := sl66) (by repeat constructor) (fun a66 c66 hv66 hh66 => ?_)
     subst hv66
     refine Dw.pure (i := 19) rfl (by kernel_rfl) (Want.none rfl) rfl (ltN rfl) (QP.nilCheck rfl rfl) ?_
     refine Dw.pure (i := 20) rfl (by kernel_rfl) (Want.none rfl) rfl (ltN rfl) (QP.fieldAddr rfl rfl f52_0) ?_
     refine Dw.eff (i := 21) (by kernel_rfl) (by kernel_rfl) ?_
     refine One.act (o := _) (l := []) rfl (by kernel_rfl) (Want.none rfl) rfl (EF.store rfl rfl rfl z44 (Ref04Queue.set_l _ ⟨a66, _, c66⟩) (cell_one rfl)) (by kernel_rfl) ?_
     rintro _ _ rfl
     refine ⟨fun _ h => (by cases h), ?_⟩
     refine Dw.nil (by kernel_rfl) ?_
     refine hk27 _ _ ?_
     refine Run.seq fun k30 hk30 => ?_
     refine Run.region ?_
     show Sq _ _ _ [0] _ _ _ _
     refine Sq.quiet (i := 0) rfl (Want.none rfl) rfl (ltN rfl) (QP.assign rfl rfl).read ?_
     refine Sq.nil ?_
     refine hk30 _ _ ?_
     refine Run.ret ?_
     have e : setR L s t = (0, setD L s t) := by unfold setR; rw [if_neg (fun ⟨h1, h2⟩ => by rcases hf11 with ⟨h, _⟩ | ⟨i, x, _, h, hx⟩; omega; rw [← hx, has_of (List.mem_of_getElem? h)] at h1; cases h1)]
     have e2 : setD L s t = (([] ++ (L1.take j).drop 0) ++ [(⟨s, t⟩ : Due)]) ++ (L1.take L1.length).drop j := by rw [cut_ins, ins_eq hjl hbef haft, hL1]; rfl
     rw [e, e2]
     exact J.ends (res_tmp rfl rfl) (.cons (by repeat constructor) (.cons (by repeat constructor) Takes.nil)) ⟨_, _, rfl, rfl⟩
  ·skip
   refine Dw.pure (i := 2) rfl (by kernel_rfl) (Want.none rfl) rfl (ltN rfl) (QP.move rfl rfl) ?_
   refine Dw.skip (i := 3) rfl (by kernel_rfl) (Want.no rfl rfl rfl rfl) rfl (ltN rfl) ?_
   refine Dw.skip (i := 4) rfl (by kernel_rfl) (Want.no rfl rfl rfl rfl) rfl (ltN rfl) ?_
   refine Dw.skip (i := 5) rfl (by kernel_rfl) (Want.no rfl rfl rfl rfl) rfl (ltN rfl) ?_
   refine Dw.skip (i := 6) rfl (by kernel_rfl) (Want.no rfl rfl rfl rfl) rfl (ltN rfl) ?_
   refine Dw.skip (i := 7) rfl (by kernel_rfl) (Want.no rfl rfl rfl rfl) rfl (ltN rfl) ?_
   refine Dw.skip (i := 8) rfl (by kernel_rfl) (Want.no rfl rfl rfl rfl) rfl (ltN rfl) ?_
   refine Dw.skip (i := 9) rfl (by kernel_rfl) (Want.no rfl rfl rfl rfl) rfl (ltN rfl) ?_
   refine Dw.skip (i := 10) rfl (by kernel_rfl) (Want.no rfl rfl rfl rfl) rfl (ltN rfl) ?_
   refine Dw.skip (i := 11) rfl (by kernel_rfl) (Want.no rfl rfl rfl rfl) rfl (ltN rfl) ?_
   refine Dw.eff (i := 12) (by kernel_rfl) (by kernel_rfl) ?_
   refine One.skipD (o := _) rfl (by kernel_rfl) (Want.no rfl rfl rfl rfl) rfl (ltN rfl) ?_
   refine Dw.pure (i := 13) rfl (by kernel_rfl) (Want.none rfl) rfl (ltN rfl) (QP.pick_f rfl rfl rfl) ?_
   refine Dw.nil (by kernel_rfl) ?_
   refine hk26 _ _ ?_
   refine Run.cond_f rfl ?_
   refine Run.exit rfl ?_
   refine hk23 _ _ ?_
   refine Run.seq fun k31 hk31 => ?_
   refine Run.regionD (M := [0, 0, 0, 4, 12, 28, 0, 124, 254, 0, 512, 2046, 0, 4096, 12288, 28672, 0, 126976, 262142, 524287, 1048575, 2097151]) (q := 1831677) (r := 33312) (by kernel_rfl) ?_
   have hbef : ∀ y ∈ L1.take j, cmpDue y (⟨s, t⟩ : Due) < 0 := by rw [show j = 0 by omega]; simp
   refine Dw.pure (i := 0) rfl (by kernel_rfl) (Want.none rfl) rfl (ltN rfl) (QP.move rfl rfl) ?_
   refine Dw.pure (i := 2) rfl (by kernel_rfl) (Want.none rfl) rfl (ltN rfl) (QP.move rfl rfl) ?_
   refine Dw.pure (i := 3) rfl (by kernel_rfl) (Want.none rfl) rfl (ltN rfl) (QP.nilCheck rfl rfl) ?_
   refine Dw.pure (i := 4) rfl (by kernel_rfl) (Want.none rfl) rfl (ltN rfl) (QP.fieldAddr rfl rfl f52_0) ?_
   refine Dw.read (i := 5) rfl (by kernel_rfl) (Want.none rfl) rfl (ltN rfl) (QR.load1 (v := .slice _ L1.length _) rfl rfl g44 (Ref04Queue.sub_l _)) ?_
   refine Dw.pure (i := 6) rfl (by kernel_rfl) (Want.none rfl) rfl (ltN rfl) (QP.move rfl rfl) ?_
   refine Dw.pure (i := 7) rfl (by kernel_rfl) (Want.none rfl) rfl (ltN rfl) (QP.sliceHi rfl rfl rfl Try.underlying44 z40 (by first | omega | (simp <;> omega)) (by first | omega | (simp <;> omega))) ?_
   refine Dw.read (i := 9) rfl (by kernel_rfl) (Want.none rfl) rfl (ltN rfl) (QR.load rfl rfl g40 (Due.enc_sub _)) ?_
   refine Dw.pure (i := 12) rfl (by kernel_rfl) (Want.none rfl) rfl (ltN rfl) (QP.move rfl rfl) ?_
   refine Dw.pure (i := 13) rfl (by kernel_rfl) (Want.none rfl) rfl (ltN rfl) (QP.nilCheck rfl rfl) ?_
   refine Dw.pure (i := 14) rfl (by kernel_rfl) (Want.none rfl) rfl (ltN rfl) (QP.fieldAddr rfl rfl f52_0) ?_
   refine Dw.read (i := 15) rfl (by kernel_rfl) (Want.none rfl) rfl (ltN rfl) (QR.load1 (v := .slice _ L1.length _) rfl rfl g44 (Ref04Queue.sub_l _)) ?_
   refine Dw.pure (i := 16) rfl (by kernel_rfl) (Want.none rfl) rfl (ltN rfl) (QP.move rfl rfl) ?_
   refine Dw.pure (i := 17) rfl (by kernel_rfl) (Want.none rfl) rfl (ltN rfl) (QP.sliceLo rfl rfl rfl Try.underlying44 z40 (by first | omega | (simp <;> omega)) (by first | omega | (simp <;> omega))) ?_
   refine Dw.effs (l := [1, 10]) (by kernel_rfl) (by kernel_rfl) ?_
   rw [List.forall_mem_cons, List.forall_mem_cons]
   refine ⟨?_, ?_, fun _ h => (by cases h)⟩
   ·skip
    refine One.mk (o := _) (l := [15, 9, 5]) rfl (by kernel_rfl) (Want.none rfl) rfl (ltN rfl) (EF.buildSlice0 (enc := Due.enc) rfl Try.underlying44 z40 zero40 (by simp [Value.cells, Due.enc_len]) (by decide)) (by kernel_rfl) ?_
    rintro _ _ ⟨b49, rfl, rfl⟩
    refine ⟨?_, ?_⟩
    ·rw [List.forall_mem_cons, List.forall_mem_cons, List.forall_mem_cons]
     refine ⟨?_, ?_, ?_, fun _ h => (by cases h)⟩
     ·exact Look.mk rfl rfl rfl (QR.load1 (v := .slice _ L1.length _) rfl rfl g44 (Ref04Queue.sub_l _))
     ·exact Look.mk rfl rfl rfl (QR.load rfl rfl g40 (Due.enc_sub _))
     ·exact Look.mk rfl rfl rfl (QR.load1 (v := .slice _ L1.length _) rfl rfl g44 (Ref04Queue.sub_l _))
    refine ?_
    refine Dw.effs (l := [8, 10]) (by kernel_rfl) (by kernel_rfl) ?_
    rw [List.forall_mem_cons, List.forall_mem_cons]
    refine ⟨?_, ?_, fun _ h => (by cases h)⟩
    ·skip
     refine One.mk (o := _) (l := [15, 9]) rfl (by kernel_rfl) (Want.none rfl) rfl (ltN rfl) (EF.append (xs := []) (ys := ((L1.take j).drop 0)) el40 Due.enc_len Due.enc_cell rfl rfl rfl Try.underlying44 Try.underlying44 rfl rfl (by repeat constructor) (RowsAt.cutOwn (i := 0) (j := j) Due.enc_len hh2 (by repeat constructor) (by omega) (by omega)) (by first | omega | (simp <;> omega))) (by kernel_rfl) ?_
     rintro sl56 _ rfl
     refine ⟨?_, ?_⟩
     ·rw [List.forall_mem_cons, List.forall_mem_cons]
      refine ⟨?_, ?_, fun _ h => (by cases h)⟩
      ·exact Look.mk rfl rfl rfl (QR.load1 (v := .slice _ L1.length _) rfl rfl g44 (Ref04Queue.sub_l _))
      ·exact Look.mk rfl rfl rfl (QR.load rfl rfl g40 (Due.enc_sub _))
     refine ?_
     refine Dw.slCase (v := sl56) (by repeat constructor) (fun a56 c56 hv56 hh56 => ?_)
     subst hv56
     refine Dw.eff (i := 10) (by kernel_rfl) (by kernel_rfl) ?_
     refine One.mk (o := _) (l := [15, 5]) rfl (by kernel_rfl) (Want.none rfl) rfl (ltN rfl) (EF.buildSlice1 rfl Try.underlying44 z40 zero40 (by simp [Value.cells, Due.enc_len]) (by decide) rfl rfl (Due.enc_len _) (by decide)) (by kernel_rfl) ?_
     rintro _ _ ⟨b58, rfl, rfl⟩
     refine ⟨?_, ?_⟩
     ·rw [List.forall_mem_cons, List.forall_mem_cons]
      refine ⟨?_, ?_, fun _ h => (by cases h)⟩
      ·exact Look.mk rfl rfl rfl (QR.load1 (v := .slice _ L1.length _) rfl rfl g44 (Ref04Queue.sub_l _))
      ·exact Look.mk rfl rfl rfl (QR.load1 (v := .slice _ L1.length _) rfl rfl g44 (Ref04Queue.sub_l _))
     refine ?_
     refine Dw.eff (i := 11) (by kernel_rfl) (by kernel_rfl) ?_
     refine One.mk (o := _) (l := [15]) rfl (by kernel_rfl) (Want.none rfl) rfl (ltN rfl) (EF.append1 (xs := _) (s := (⟨s, t⟩ : Due)) el40 Due.enc_len Due.enc_cell rfl rfl rfl Try.underlying44 Try.underlying44 rfl rfl (by repeat constructor) (by repeat constructor) (by first | omega | (simp <;> omega))) (by kernel_rfl) ?_
     rintro sl59 _ rfl
     refine ⟨?_, ?_⟩
     ·rw [List.forall_mem_cons]
      refine ⟨?_, fun _ h => (by cases h)⟩
      ·exact Look.mk rfl rfl rfl (QR.load1 (v := .slice _ L1.length _) rfl rfl g44 (Ref04Queue.sub_l _))
     refine ?_
     refine Dw.slCase (v := sl59) (by repeat constructor) (fun a59 c59 hv59 hh59 => ?_)
     subst hv59
     refine Dw.eff (i := 18) (by kernel_rfl) (by kernel_rfl) ?_
     refine One.mk (o := _) (l := []) rfl (by kernel_rfl) (Want.none rfl) rfl (ltN rfl) (EF.append (xs := _) (ys := ((L1.take L1.length).drop j)) el40 Due.enc_len Due.enc_cell rfl rfl rfl Try.underlying44 Try.underlying44 rfl rfl (by repeat constructor) (RowsAt.cutOwn (i := j) (j := L1.length) Due.enc_len hh2 (by repeat constructor) (by omega) (by omega)) (by first | omega | (simp <;> omega))) (by kernel_rfl) ?_
     rintro sl66 _ rfl
     refine ⟨fun _ h => (by cases h), ?_⟩
     refine Dw.slCase (v := sl66) (by repeat constructor) (fun a66 c66 hv66 hh66 => ?_)
     subst hv66
     refine Dw.pure (i := 19) rfl (by kernel_rfl) (Want.none rfl) rfl (ltN rfl) (QP.nilCheck rfl rfl) ?_
     refine Dw.pure (i := 20) rfl (by kernel_rfl) (Want.none rfl) rfl (ltN rfl) (QP.fieldAddr rfl rfl f52_0) ?_
     refine Dw.eff (i := 21) (by kernel_rfl) (by kernel_rfl) ?_
     refine One.act (o := _) (l := []) rfl (by kernel_rfl) (Want.none rfl) rfl (EF.store rfl rfl rfl z44 (Ref04Queue.set_l _ ⟨a66, _, c66⟩) (cell_one rfl)) (by kernel_rfl) ?_
     rintro _ _ rfl
     refine ⟨fun _ h => (by cases h), ?_⟩
     refine Dw.nil (by kernel_rfl) ?_
     refine hk31 _ _ ?_
     refine Run.seq fun k32 hk32 => ?_
     refine Run.region ?_
     show Sq _ _ _ [0] _ _ _ _
     refine Sq.quiet (i := 0) rfl (Want.none rfl) rfl (ltN rfl) (QP.assign rfl rfl).read ?_
     refine Sq.nil ?_
     refine hk32 _ _ ?_
     refine Run.ret ?_
     have e : setR L s t = (0, setD L s t) := by unfold setR; rw [if_neg (fun ⟨h1, h2⟩ => by rcases hf11 with ⟨h, _⟩ | ⟨i, x, _, h, hx⟩; omega; rw [← hx, has_of (List.mem_of_getElem? h)] at h1; cases h1)]
     have e2 : setD L s t = (([] ++ (L1.take j).drop 0) ++ [(⟨s, t⟩ : Due)]) ++ (L1.take L1.length).drop j := by rw [cut_ins, ins_eq hjl hbef haft, hL1]; rfl
     rw [e, e2]
     exact J.ends (res_tmp rfl rfl) (.cons (by repeat constructor) (.cons (by repeat constructor) Takes.nil)) ⟨_, _, rfl, rfl⟩
    ·skip
     refine One.mk (o := _) (l := [15, 5]) rfl (by kernel_rfl) (Want.none rfl) rfl (ltN rfl) (EF.buildSlice1 rfl Try.underlying44 z40 zero40 (by simp [Value.cells, Due.enc_len]) (by decide) rfl rfl (Due.enc_len _) (by decide)) (by kernel_rfl) ?_
     rintro _ _ ⟨b58, rfl, rfl⟩
     refine ⟨?_, ?_⟩
     ·rw [List.forall_mem_cons, List.forall_mem_cons]
      refine ⟨?_, ?_, fun _ h => (by cases h)⟩
      ·exact Look.mk rfl rfl rfl (QR.load1 (v := .slice _ L1.length _) rfl rfl g44 (Ref04Queue.sub_l _))
      ·exact Look.mk rfl rfl rfl (QR.load1 (v := .slice _ L1.length _) rfl rfl g44 (Ref04Queue.sub_l _))
     refine ?_
     refine Dw.eff (i := 8) (by kernel_rfl) (by kernel_rfl) ?_
     refine One.mk (o := _) (l := [15, 9]) rfl (by kernel_rfl) (Want.none rfl) rfl (ltN rfl) (EF.append (xs := []) (ys := ((L1.take j).drop 0)) el40 Due.enc_len Due.enc_cell rfl rfl rfl Try.underlying44 Try.underlying44 rfl rfl (by repeat constructor) (RowsAt.cutOwn (i := 0) (j := j) Due.enc_len hh2 (by repeat constructor) (by omega) (by omega)) (by first | omega | (simp <;> omega))) (by kernel_rfl) ?_
     rintro sl56 _ rfl
     refine ⟨?_, ?_⟩
     ·rw [List.forall_mem_cons, List.forall_mem_cons]
      refine ⟨?_, ?_, fun _ h => (by cases h)⟩
      ·exact Look.mk rfl rfl rfl (QR.load1 (v := .slice _ L1.length _) rfl rfl g44 (Ref04Queue.sub_l _))
      ·exact Look.mk rfl rfl rfl (QR.load rfl rfl g40 (Due.enc_sub _))
     refine ?_
     refine Dw.slCase (v := sl56) (by repeat constructor) (fun a56 c56 hv56 hh56 => ?_)
     subst hv56
     refine Dw.eff (i := 11) (by kernel_rfl) (by kernel_rfl) ?_
     refine One.mk (o := _) (l := [15]) rfl (by kernel_rfl) (Want.none rfl) rfl (ltN rfl) (EF.append1 (xs := _) (s := (⟨s, t⟩ : Due)) el40 Due.enc_len Due.enc_cell rfl rfl rfl Try.underlying44 Try.underlying44 rfl rfl (by repeat constructor) (by repeat constructor) (by first | omega | (simp <;> omega))) (by kernel_rfl) ?_
     rintro sl59 _ rfl
     refine ⟨?_, ?_⟩
     ·rw [List.forall_mem_cons]
      refine ⟨?_, fun _ h => (by cases h)⟩
      ·exact Look.mk rfl rfl rfl (QR.load1 (v := .slice _ L1.length _) rfl rfl g44 (Ref04Queue.sub_l _))
     refine ?_
     refine Dw.slCase (v := sl59) (by repeat constructor) (fun a59 c59 hv59 hh59 => ?_)
     subst hv59
     refine Dw.eff (i := 18) (by kernel_rfl) (by kernel_rfl) ?_
     refine One.mk (o := _) (l := []) rfl (by kernel_rfl) (Want.none rfl) rfl (ltN rfl) (EF.append (xs := _) (ys := ((L1.take L1.length).drop j)) el40 Due.enc_len Due.enc_cell rfl rfl rfl Try.underlying44 Try.underlying44 rfl rfl (by repeat constructor) (RowsAt.cutOwn (i := j) (j := L1.length) Due.enc_len hh2 (by repeat constructor) (by omega) (by omega)) (by first | omega | (simp <;> omega))) (by kernel_rfl) ?_
     rintro sl66 _ rfl
     refine ⟨fun _ h => (by cases h), ?_⟩
     refine Dw.slCase (v := sl66) (by repeat constructor) (fun a66 c66 hv66 hh66 => ?_)
     subst hv66
     refine Dw.pure (i := 19) rfl (by kernel_rfl) (Want.none rfl) rfl (ltN rfl) (QP.nilCheck rfl rfl) ?_
     refine Dw.pure (i := 20) rfl (by kernel_rfl) (Want.none rfl) rfl (ltN rfl) (QP.fieldAddr rfl rfl f52_0) ?_
     refine Dw.eff (i := 21) (by kernel_rfl) (by kernel_rfl) ?_
     refine One.act (o := _) (l := []) rfl (by kernel_rfl) (Want.none rfl) rfl (EF.store rfl rfl rfl z44 (Ref04Queue.set_l _ ⟨a66, _, c66⟩) (cell_one rfl)) (by kernel_rfl) ?_
     rintro _ _ rfl
     refine ⟨fun _ h => (by cases h), ?_⟩
     refine Dw.nil (by kernel_rfl) ?_
     refine hk31 _ _ ?_
     refine Run.seq fun k33 hk33 => ?_
     refine Run.region ?_
     show Sq _ _ _ [0] _ _ _ _
     refine Sq.quiet (i := 0) rfl (Want.none rfl) rfl (ltN rfl) (QP.assign rfl rfl).read ?_
     refine Sq.nil ?_
     refine hk33 _ _ ?_
     refine Run.ret ?_
     have e : setR L s t = (0, setD L s t) := by unfold setR; rw [if_neg (fun ⟨h1, h2⟩ => by rcases hf11 with ⟨h, _⟩ | ⟨i, x, _, h, hx⟩; omega; rw [← hx, has_of (List.mem_of_getElem? h)] at h1; cases h1)]
     have e2 : setD L s t = (([] ++ (L1.take j).drop 0) ++ [(⟨s, t⟩ : Due)]) ++ (L1.take L1.length).drop j := by rw [cut_ins, ins_eq hjl hbef haft, hL1]; rfl
     rw [e, e2]
     exact J.ends (res_tmp rfl rfl) (.cons (by repeat constructor) (.cons (by repeat constructor) Takes.nil)) ⟨_, _, rfl, rfl⟩
   ·skip
    refine One.mk (o := _) (l := [15, 5]) rfl (by kernel_rfl) (Want.none rfl) rfl (ltN rfl) (EF.buildSlice1 rfl Try.underlying44 z40 zero40 (by simp [Value.cells, Due.enc_len]) (by decide) rfl rfl (Due.enc_len _) (by decide)) (by kernel_rfl) ?_
    rintro _ _ ⟨b58, rfl, rfl⟩
    refine ⟨?_, ?_⟩
    ·rw [List.forall_mem_cons, List.forall_mem_cons]
     refine ⟨?_, ?_, fun _ h => (by cases h)⟩
     ·exact Look.mk rfl rfl rfl (QR.load1 (v := .slice _ L1.length _) rfl rfl g44 (Ref04Queue.sub_l _))
     ·exact Look.mk rfl rfl rfl (QR.load1 (v := .slice _ L1.length _) rfl rfl g44 (Ref04Queue.sub_l _))
    refine ?_
    refine Dw.eff (i := 1) (by kernel_rfl) (by kernel_rfl) ?_
    refine One.mk (o := _) (l := [15, 9, 5]) rfl (by kernel_rfl) (Want.none rfl) rfl (ltN rfl) (EF.buildSlice0 (enc := Due.enc) rfl Try.underlying44 z40 zero40 (by simp [Value.cells, Due.enc_len]) (by decide)) (by kernel_rfl) ?_
    rintro _ _ ⟨b49, rfl, rfl⟩
    refine ⟨?_, ?_⟩
    ·rw [List.forall_mem_cons, List.forall_mem_cons, List.forall_mem_cons]
     refine ⟨?_, ?_, ?_, fun _ h => (by cases h)⟩
     ·exact Look.mk rfl rfl rfl (QR.load1 (v := .slice _ L1.length _) rfl rfl g44 (Ref04Queue.sub_l _))
     ·exact Look.mk rfl rfl rfl (QR.load rfl rfl g40 (Due.enc_sub _))
     ·exact Look.mk rfl rfl rfl (QR.load1 (v := .slice _ L1.length _) rfl rfl g44 (Ref04Queue.sub_l _))
    refine ?_
    refine Dw.eff (i := 8) (by kernel_rfl) (by kernel_rfl) ?_
    refine One.mk (o := _) (l := [15, 9]) rfl (by kernel_rfl) (Want.none rfl) rfl (ltN rfl) (EF.append (xs := []) (ys := ((L1.take j).drop 0)) el40 Due.enc_len Due.enc_cell rfl rfl rfl Try.underlying44 Try.underlying44 rfl rfl (by repeat constructor) (RowsAt.cutOwn (i := 0) (j := j) Due.enc_len hh2 (by repeat constructor) (by omega) (by omega)) (by first | omega | (simp <;> omega))) (by kernel_rfl) ?_
    rintro sl56 _ rfl
    refine ⟨?_, ?_⟩
    ·rw [List.forall_mem_cons, List.forall_mem_cons]
     refine ⟨?_, ?_, fun _ h => (by cases h)⟩
     ·exact Look.mk rfl rfl rfl (QR.load1 (v := .slice _ L1.length _) rfl rfl g44 (Ref04Queue.sub_l _))
     ·exact Look.mk rfl rfl rfl (QR.load rfl rfl g40 (Due.enc_sub _))
    refine ?_
    refine Dw.slCase (v := sl56) (by repeat constructor) (fun a56 c56 hv56 hh56 => ?_)
    subst hv56
    refine Dw.eff (i := 11) (by kernel_rfl) (by kernel_rfl) ?_
    refine One.mk (o := _) (l := [15]) rfl (by kernel_rfl) (Want.none rfl) rfl (ltN rfl) (EF.append1 (xs := _) (s := (⟨s, t⟩ : Due)) el40 Due.enc_len Due.enc_cell rfl rfl rfl Try.underlying44 Try.underlying44 rfl rfl (by repeat constructor) (by repeat constructor) (by first | omega | (simp <;> omega))) (by kernel_rfl) ?_
    rintro sl59 _ rfl
    refine ⟨?_, ?_⟩
    ·rw [List.forall_mem_cons]
     refine ⟨?_, fun _ h => (by cases h)⟩
     ·exact Look.mk rfl rfl rfl (QR.load1 (v := .slice _ L1.length _) rfl rfl g44 (Ref04Queue.sub_l _))
    refine ?_
    refine Dw.slCase (v := sl59) (by repeat constructor) (fun a59 c59 hv59 hh59 => ?_)
    subst hv59
    refine Dw.eff (i := 18) (by kernel_rfl) (by kernel_rfl) ?_
    refine One.mk (o := _) (l := []) rfl (by kernel_rfl) (Want.none rfl) rfl (ltN rfl) (EF.append (xs := _) (ys := ((L1.take L1.length).drop j)) el40 Due.enc_len Due.enc_cell rfl rfl rfl Try.underlying44 Try.underlying44 rfl rfl (by repeat constructor) (RowsAt.cutOwn (i := j) (j := L1.length) Due.enc_len hh2 (by repeat constructor) (by omega) (by omega)) (by first | omega | (simp <;> omega))) (by kernel_rfl) ?_
    rintro sl66 _ rfl
    refine ⟨fun _ h => (by cases h), ?_⟩
    refine Dw.slCase (v := sl66) (by repeat constructor) (fun a66 c66 hv66 hh66 => ?_)
    subst hv66
    refine Dw.pure (i := 19) rfl (by kernel_rfl) (Want.none rfl) rfl (ltN rfl) (QP.nilCheck rfl rfl) ?_
    refine Dw.pure (i := 20) rfl (by kernel_rfl) (Want.none rfl) rfl (ltN rfl) (QP.fieldAddr rfl rfl f52_0) ?_
    refine Dw.eff (i := 21) (by kernel_rfl) (by kernel_rfl) ?_
    refine One.act (o := _) (l := []) rfl (by kernel_rfl) (Want.none rfl) rfl (EF.store rfl rfl rfl z44 (Ref04Queue.set_l _ ⟨a66, _, c66⟩) (cell_one rfl)) (by kernel_rfl) ?_
    rintro _ _ rfl
    refine ⟨fun _ h => (by cases h), ?_⟩
    refine Dw.nil (by kernel_rfl) ?_
    refine hk31 _ _ ?_
    refine Run.seq fun k34 hk34 => ?_
    refine Run.region ?_
    show Sq _ _ _ [0] _ _ _ _
    refine Sq.quiet (i := 0) rfl (Want.none rfl) rfl (ltN rfl) (QP.assign rfl rfl).read ?_
    refine Sq.nil ?_
    refine hk34 _ _ ?_
    refine Run.ret ?_
    have e : setR L s t = (0, setD L s t) := by unfold setR; rw [if_neg (fun ⟨h1, h2⟩ => by rcases hf11 with ⟨h, _⟩ | ⟨i, x, _, h, hx⟩; omega; rw [← hx, has_of (List.mem_of_getElem? h)] at h1; cases h1)]
    have e2 : setD L s t = (([] ++ (L1.take j).drop 0) ++ [(⟨s, t⟩ : Due)]) ++ (L1.take L1.length).drop j := by rw [cut_ins, ins_eq hjl hbef haft, hL1]; rfl
    rw [e, e2]
    exact J.ends (res_tmp rfl rfl) (.cons (by repeat constructor) (.cons (by repeat constructor) Takes.nil)) ⟨_, _, rfl, rfl⟩
end Slb
