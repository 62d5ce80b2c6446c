/- K13: a part of the proof that a law of this package holds for every input; no condition. -/
import Derived.Test.YtgcjmamfbcmccaaK8
namespace Slb
open Go Go.Proofs
set_option maxRecDepth 20000
theorem do_add (M1 M2 : TabE) (e : Entry) : doK 0 M1 M2 ⟨1, e⟩ = (impOk M2 M1 e, 0, impK M2 M1 e) := by
  unfold doK
  rw [if_neg (by omega)]
  cases hq : impOk M2 M1 e with
  | true =>
    rw [impK_yes hq]
    unfold impOk at hq
    simp only [Bool.and_eq_true, Bool.not_eq_true'] at hq
    rw [if_pos hq.2.2, if_pos (.inl ⟨rfl, hq.2.1, hq.1⟩)]
  | false =>
    rw [impK_no hq]
    by_cases hc : checkPairB (⟨1, e⟩ : Op).entry.pair = true
    · rw [if_pos hc, if_neg, if_neg (by rintro ⟨h, _⟩; cases h)]
      rintro (⟨_, h1, h2⟩ | ⟨h, _⟩)
      · have h1' : (alook M1 e.pair).isSome = false := h1
        have h2' : (alook M2 e.pair).isSome = false := h2
        have hc' : checkPairB e.pair = true := hc
        unfold impOk at hq
        rw [h1', h2', hc'] at hq
        cases hq
      · cases h
    · rw [if_neg hc]
theorem do_other {M1 M2 : TabE} {e : Entry} (h : alook M1 e.pair = none) {k : Int} (hk : k ≠ 1) : doK 0 M1 M2 ⟨k, e⟩ = (false, 0, M1) := by
  have h' : (alook M1 (⟨k, e⟩ : Op).entry.pair).isSome = false := by show (alook M1 e.pair).isSome = false; rw [h]; rfl
  unfold doK
  rw [if_neg (by omega), h']
  split
  · rw [if_neg (by rintro (⟨h1, _⟩ | ⟨_, h1⟩); exact hk h1; cases h1), if_neg (by rintro ⟨_, h1⟩; cases h1)]
  · rfl
theorem do_rem {M1 M2 : TabE} {e x : Entry} (h : alook M1 e.pair = some x) (hc : checkPairB e.pair = true) : doK 0 M1 M2 ⟨3, e⟩ = (true, 0, adel M1 e.pair) := by
  have h' : (alook M1 (⟨3, e⟩ : Op).entry.pair).isSome = true := by show (alook M1 e.pair).isSome = true; rw [h]; rfl
  unfold doK
  rw [if_neg (by omega), if_pos (show checkPairB (⟨3, e⟩ : Op).entry.pair = true from hc), h', if_neg (by rintro (⟨h1, _⟩ | ⟨h1, _⟩) <;> cases h1), if_pos ⟨rfl, rfl⟩]
/-- Two tables that share no key. -/
def Apart (M1 M2 : TabE) : Prop := ∀ e ∈ M1, alook M2 e.1 = none
theorem Apart.imps {M2 : TabE} (xs : List Entry) : ∀ {M1 : TabE}, Apart M1 M2 → Apart (xs.foldl (impK M2) M1) M2 := by
  induction xs with
  | nil => exact fun h => h
  | cons e xs ih =>
    intro M1 h
    refine ih ?_
    cases hq : impOk M2 M1 e with
    | false => rw [impK_no hq]; exact h
    | true =>
      rw [impK_yes hq]
      intro x hx
      rcases mem_aset hx with rfl | hx
      · unfold impOk at hq
        simp only [Bool.and_eq_true, Bool.not_eq_true'] at hq
        cases hl : alook M2 e.pair with
        | none => rfl
        | some y => rw [hl] at hq; cases hq.1
      · exact h x hx
theorem Apart.look {M1 M2 : TabE} (h : Apart M1 M2) {k : Pair} {y : Entry} (hk : alook M2 k = some y) : alook M1 k = none := alook_none.2 fun e he hc => by
  have := h e he
  rw [hc, hk] at this
  cases this
theorem ord_drop {M : TabE} {L : List Entry} {i : Nat} {e : Entry} (h : OrdE M (L.drop i)) (he : L[i]? = some e) : alook M e.pair = some e ∧ OrdE (adel M e.pair) (L.drop (i + 1)) ∧ alook (adel M e.pair) e.pair = none := by
  have hlt : i < L.length := (List.getElem?_eq_some_iff.1 he).1
  have hx : L[i] = e := (List.getElem?_eq_some_iff.1 he).2
  have hd : L.drop i = e :: L.drop (i + 1) := by rw [List.drop_eq_getElem_cons hlt, hx]
  have h0 : (L.drop i)[0]? = some e := by rw [hd]; rfl
  refine ⟨h.mem.1 (List.mem_of_getElem? h0), ?_, ?_⟩
  · have := h.del keyCmpE h0
    rw [hd] at this
    exact this
  · rw [adel_filter h.nodup]
    refine alook_none.2 fun x hx hc => ?_
    have := (List.mem_filter.1 hx).2
    rw [decide_eq_true_eq] at this
    exact this hc

theorem law_back (F : Fr) {a : Option Addr} {c : Nat} {xs : List Entry} (hc : xs.length ≤ 9223372036854775807) (ha : ArgSl F a 51 Entry.enc xs) {a2 : Option Addr} {c2 : Nat} {ys : List Entry} (hc2 : ys.length ≤ 9223372036854775807) (hb : ArgSl F a2 51 Entry.enc ys) : Spec Try.prog 4 #[.slice a xs.length c, .slice a2 ys.length c2] [] F (fun v S => v = .bool true ∧ S = []) := by
 refine Spec.intro (N := 108) (args := [.slice a xs.length c, .slice a2 ys.length c2]) Try.func4 rfl rfl (by simp) ?_
 refine Run.seq fun k1 hk1 => ?_
 refine Run.region ?_
 show Sq _ _ _ [0] _ _ _ _
 refine Sq.quiet (i := 0) rfl (Want.none rfl) rfl (ltN rfl) (QP.assign rfl rfl).read ?_
 refine Sq.nil ?_
 refine hk1 _ _ ?_
 refine Run.seq fun k2 hk2 => ?_
 refine Run.seq fun k3 hk3 => ?_
 refine Run.region ?_
 show Sq _ _ _ [0, 1, 2, 3, 4, 5, 6, 7] _ _ _ _
 refine Sq.quiet (i := 0) rfl (Want.none rfl) rfl (ltN rfl) (QP.move rfl rfl).read ?_
 refine Sq.quiet (i := 1) rfl (Want.none rfl) rfl (ltN rfl) (QP.len rfl rfl rfl Try.underlying22).read ?_
 refine Sq.quiet (i := 2) rfl (Want.none rfl) rfl (ltN rfl) (QP.gtr rfl rfl rfl).read ?_
 refine J.caseD (fun c14 => ?_) (fun c14 => ?_)
 ·skip
  refine Sq.quiet (i := 3) rfl (Want.none rfl) rfl (ltN rfl) (QP.move rfl rfl).read ?_
  refine Sq.skip (i := 4) rfl (Want.no rfl rfl rfl rfl) rfl (ltN rfl) ?_
  refine Sq.skip (i := 5) rfl (Want.no rfl rfl rfl rfl) rfl (ltN rfl) ?_
  refine Sq.skip (i := 6) rfl (Want.no rfl rfl rfl rfl) rfl (ltN rfl) ?_
  refine Sq.quiet (i := 7) rfl (Want.none rfl) rfl (ltN rfl) (QP.pick_t rfl rfl rfl).read ?_
  refine Sq.nil ?_
  refine hk3 _ _ ?_
  refine Run.cond_t rfl ?_
  refine Run.seq fun k4 hk4 => ?_
  refine Run.region ?_
  show Sq _ _ _ [0, 1] _ _ _ _
  refine Sq.eff (i := 0) rfl (Want.none rfl) rfl (ltN rfl) (EF.call rfl ce8 rfl Takes.nil (fun F' hle hr => live_spec F')) ?_
  rintro _ _ ⟨_, ⟨rfl, rfl⟩, rfl⟩
  refine J.app ?_
  refine Sq.quiet (i := 1) rfl (Want.none rfl) rfl (ltN rfl) (QP.assign rfl rfl).read ?_
  refine Sq.nil ?_
  refine hk4 _ _ ?_
  refine Run.ret ?_
  exact J.ends (res_tmp rfl rfl) Takes.nil ⟨rfl, rfl⟩
 ·skip
  refine Sq.quiet (i := 3) rfl (Want.none rfl) rfl (ltN rfl) (QP.move rfl rfl).read ?_
  refine Sq.quiet (i := 4) rfl (Want.yes rfl rfl rfl rfl) rfl (ltN rfl) (QP.move rfl rfl).read ?_
  refine Sq.quiet (i := 5) rfl (Want.yes rfl rfl rfl rfl) rfl (ltN rfl) (QP.len rfl rfl rfl Try.underlying22).read ?_
  refine Sq.quiet (i := 6) rfl (Want.yes rfl rfl rfl rfl) rfl (ltN rfl) (QP.gtr rfl rfl rfl).read ?_
  refine J.caseD (fun c18 => ?_) (fun c18 => ?_)
  ·skip
   refine Sq.quiet (i := 7) rfl (Want.none rfl) rfl (ltN rfl) (QP.pick_f rfl rfl rfl).read ?_
   refine Sq.nil ?_
   refine hk3 _ _ ?_
   refine Run.cond_t rfl ?_
   refine Run.seq fun k5 hk5 => ?_
   refine Run.region ?_
   show Sq _ _ _ [0, 1] _ _ _ _
   refine Sq.eff (i := 0) rfl (Want.none rfl) rfl (ltN rfl) (EF.call rfl ce8 rfl Takes.nil (fun F' hle hr => live_spec F')) ?_
   rintro _ _ ⟨_, ⟨rfl, rfl⟩, rfl⟩
   refine J.app ?_
   refine Sq.quiet (i := 1) rfl (Want.none rfl) rfl (ltN rfl) (QP.assign rfl rfl).read ?_
   refine Sq.nil ?_
   refine hk5 _ _ ?_
   refine Run.ret ?_
   exact J.ends (res_tmp rfl rfl) Takes.nil ⟨rfl, rfl⟩
  ·skip
   refine Sq.quiet (i := 7) rfl (Want.none rfl) rfl (ltN rfl) (QP.pick_f rfl rfl rfl).read ?_
   refine Sq.nil ?_
   refine hk3 _ _ ?_
   refine Run.cond_f rfl ?_
   refine Run.skip ?_
   refine hk2 _ _ ?_
   refine Run.seq fun k6 hk6 => ?_
   refine Run.region ?_
   show Sq _ _ _ [0, 1] _ _ _ _
   refine Sq.eff (i := 0) rfl (Want.none rfl) rfl (ltN rfl) (EF.call rfl ce9 rfl Takes.nil (fun F' hle hr => newK F')) ?_
   rintro _ _ ⟨_, ⟨kb, kr1, kr2, rfl, rfl⟩, rfl⟩
   refine J.app ?_
   refine Sq.quiet (i := 1) rfl (Want.none rfl) rfl (ltN rfl) (QP.assign rfl rfl).read ?_
   refine Sq.nil ?_
   refine hk6 _ _ ?_
   refine Run.seq fun k7 hk7 => ?_
   refine Run.seq fun k8 hk8 => ?_
   refine Run.region ?_
   show Sq _ _ _ [0, 1] _ _ _ _
   refine Sq.quiet (i := 0) rfl (Want.none rfl) rfl (ltN rfl) (QP.move rfl rfl).read ?_
   refine Sq.quiet (i := 1) rfl (Want.none rfl) rfl (ltN rfl) (QP.ptr_eq_nil rfl rfl rfl Try.underlying24).read ?_
   refine Sq.nil ?_
   refine hk8 _ _ ?_
   refine Run.cond_f rfl ?_
   refine Run.skip ?_
   refine hk7 _ _ ?_
   refine Run.seq fun k9 hk9 => ?_
   refine Run.region ?_
   show Sq _ _ _ [0, 1, 2] _ _ _ _
   have hl150 : xs.length ≤ 150 := by omega
   have hl250 : ys.length ≤ 150 := by omega
   refine Sq.quiet (i := 0) rfl (Want.none rfl) rfl (ltN rfl) (QP.move rfl rfl).read ?_
   refine Sq.quiet (i := 1) rfl (Want.none rfl) rfl (ltN rfl) (QP.move rfl rfl).read ?_
   refine Sq.eff (i := 2) rfl (Want.none rfl) rfl (ltN rfl) (EF.call rfl ce10 rfl (.cons (by repeat constructor) (.cons (by repeat constructor) Takes.nil)) (fun F' hle hr => import_spec F' ⟨hr _ _ (by repeat constructor)⟩ (hb.mono hle) (by omega) (by decide))) ?_
   rintro _ _ ⟨_, ⟨rfl, rfl⟩, rfl⟩
   refine J.app ?_
   refine Sq.nil ?_
   refine hk9 _ _ ?_
   refine Run.seq fun k10 hk10 => ?_
   refine Run.region ?_
   show Sq _ _ _ [0, 1, 2] _ _ _ _
   have hgood : GoodE (ys.foldl (impK []) []) := GoodE.imps ys GoodE.nil
   obtain ⟨L2, hL⟩ := hgood.ord
   have hMl : (ys.foldl (impK []) []).length ≤ 1000000 := by have := (imp_len [] ys []).2; simp only [List.length_nil] at this; omega
   have hLl : L2.length ≤ 1000000 := by rw [hL.length]; exact hMl
   generalize hM : ys.foldl (impK []) [] = M2 at hgood hL hMl ⊢
   refine Sq.quiet (i := 0) rfl (Want.none rfl) rfl (ltN rfl) (QP.move rfl rfl).read ?_
   refine Sq.eff (i := 1) rfl (Want.none rfl) rfl (ltN rfl) (EF.call rfl ce11 rfl (.cons (by repeat constructor) Takes.nil) (fun F' hle hr => imported_spec F' ⟨hr _ _ (by repeat constructor)⟩ hMl hL)) ?_
   rintro v28 _ ⟨_, rfl, rfl⟩
   refine J.app ?_
   refine Sq.slCase (v := v28) (xs := L2) (by repeat constructor) (fun a28 c28 hv28 hh28 => ?_)
   subst hv28
   refine Sq.quiet (i := 2) rfl (Want.none rfl) rfl (ltN rfl) (QP.assign rfl rfl).read ?_
   refine Sq.nil ?_
   refine hk10 _ _ ?_
   refine Run.seq fun k11 hk11 => ?_
   refine Run.region ?_
   show Sq _ _ _ [0] _ _ _ _
   refine Sq.quiet (i := 0) rfl (Want.none rfl) rfl (ltN rfl) (QP.assign rfl rfl).read ?_
   refine Sq.nil ?_
   refine hk11 _ _ ?_
   refine Run.seq fun k12 hk12 => ?_
   refine Run.seq fun k13 hk13 => ?_
   refine Run.region ?_
   show Sq _ _ _ [0] _ _ _ _
   refine Sq.quiet (i := 0) rfl (Want.none rfl) rfl (ltN rfl) (QP.assign rfl rfl).read ?_
   refine Sq.nil ?_
   refine hk13 _ _ ?_
   refine Run.block ?_
   refine Run.loop1 (fun (i : Nat) => i ≤ xs.length) (fun i => .cons 0 (.slice a xs.length c) (.cons 5 (.pointer (some ⟨kb, 0, none⟩)) (.cons 6 (.slice a28 L2.length c28) (.cons 7 (.int .i64 (((xs.take i).foldl (impK M2) []).length : Int)) (.cons 8 (.int .i64 i) (.nil)))))) (fun i => [blk kb (KernelKernel.enc ⟨some kr1, some kr2, 0⟩) 64, mapE kr1 ((xs.take i).foldl (impK M2) []), mapE kr2 M2, slA 38 51 Entry.enc (.slice a28 L2.length c28) L2]) (fun i => xs.length - i) (0) (Nat.zero_le _) ?_ ?_
   ·exact fun _ j => J.envJ (J.keep (.cons (by repeat constructor) (.cons (by repeat constructor) (.cons (by repeat constructor) (.cons (by repeat constructor) Takes.nil)))) j) ⟨rfl, rfl, rfl, rfl, rfl, trivial⟩
   rintro i hile kl14 hl14
   refine Run.seq fun k15 hk15 => ?_
   refine Run.seq fun k16 hk16 => ?_
   refine Run.region ?_
   show Sq _ _ _ [0, 1, 2, 3] _ _ _ _
   refine Sq.quiet (i := 0) rfl (Want.none rfl) rfl (ltN rfl) (QP.move rfl rfl).read ?_
   refine Sq.quiet (i := 1) rfl (Want.none rfl) rfl (ltN rfl) (QP.move rfl rfl).read ?_
   refine Sq.quiet (i := 2) rfl (Want.none rfl) rfl (ltN rfl) (QP.len rfl rfl rfl Try.underlying22).read ?_
   refine Sq.quiet (i := 3) rfl (Want.none rfl) rfl (ltN rfl) (QP.lss rfl rfl rfl).read ?_
   refine J.caseD (fun c32 => ?_) (fun c32 => ?_)
   ·skip
    refine Sq.nil ?_
    refine hk16 _ _ ?_
    refine Run.cond_t rfl ?_
    refine Run.skip ?_
    refine hk15 _ _ ?_
    refine Run.seq fun k17 hk17 => ?_
    refine Run.block ?_
    refine Run.seq fun k18 hk18 => ?_
    refine Run.region ?_
    show Sq _ _ _ [0, 1, 2, 3, 4, 5, 6] _ _ _ _
    have hlt : i < xs.length := by omega
    obtain ⟨e, hi⟩ : ∃ e, xs[i]? = some e := ⟨_, List.getElem?_eq_getElem hlt⟩
    obtain ⟨b0, o0, rfl, hs0⟩ := ha.get (by omega)
    have hil2 := (imp_len M2 (xs.take i) []).2
    have htl : (xs.take i).length ≤ 150 := by rw [List.length_take]; omega
    simp only [List.length_nil] at hil2
    have hsu : (xs.take (i + 1)).foldl (impK M2) [] = impK M2 ((xs.take i).foldl (impK M2) []) e := by rw [List.take_add_one, hi, Option.toList_some, List.foldl_append]; rfl
    have hlen := impK_len M2 ((xs.take i).foldl (impK M2) []) e
    refine Sq.quiet (i := 0) rfl (Want.none rfl) rfl (ltN rfl) (QP.move rfl rfl).read ?_
    refine Sq.quiet (i := 1) rfl (Want.none rfl) rfl (ltN rfl) (QP.move rfl rfl).read ?_
    refine Sq.quiet (i := 2) rfl (Want.none rfl) rfl (ltN rfl) (QP.move rfl rfl).read ?_
    refine Sq.quiet (i := 3) rfl (Want.none rfl) rfl (ltN rfl) (QP.indexAddr rfl rfl rfl Try.underlying22 z38 (by first | omega | (simp <;> omega)) (by first | omega | (simp <;> omega))).read ?_
    refine Sq.quiet (i := 4) rfl (Want.none rfl) rfl (ltN rfl) (QR.loadSl rfl rfl g38 Entry.enc_len (hs0 _) hi) ?_
    refine Sq.quiet (i := 5) rfl (Want.none rfl) rfl (ltN rfl) (QP.build (l := Op.enc ⟨(1), (e)⟩) rfl st42 rfl (by exact ⟨rfl, ⟨(congrArg some (Entry.enc_len _).symm), trivial⟩⟩) rfl).read ?_
    refine Sq.eff (i := 6) rfl (Want.none rfl) rfl (ltN rfl) (EF.call rfl ce16 rfl (.cons (by repeat constructor) (.cons (by repeat constructor) (.cons (by repeat constructor) Takes.nil))) (fun F' hle hr => do_spec F' (by first | omega | decide | simp) _)) ?_
    rintro _ _ ⟨_, ⟨rfl, rfl⟩, rfl⟩
    refine J.app ?_
    rw [do_add]
    refine J.caseB (fun c41 => ?_) (fun c41 => ?_)
    ·skip
     refine Sq.nil ?_
     refine hk18 _ _ ?_
     refine Run.cond_t rfl ?_
     refine Run.region ?_
     show Sq _ _ _ [0, 1, 2] _ _ _ _
     refine Sq.quiet (i := 0) rfl (Want.none rfl) rfl (ltN rfl) (QP.move rfl rfl).read ?_
     refine Sq.quiet (i := 1) rfl (Want.none rfl) rfl (ltN rfl) (QP.add64 rfl rfl rfl (by first | omega | (simp <;> omega)) (by first | omega | (simp <;> omega))).read ?_
     refine Sq.quiet (i := 2) rfl (Want.none rfl) rfl (ltN rfl) (QP.assign rfl rfl).read ?_
     refine Sq.nil ?_
     refine hk17 _ _ ?_
     refine Run.region ?_
     show Sq _ _ _ [0, 1, 2] _ _ _ _
     refine Sq.quiet (i := 0) rfl (Want.none rfl) rfl (ltN rfl) (QP.move rfl rfl).read ?_
     refine Sq.quiet (i := 1) rfl (Want.none rfl) rfl (ltN rfl) (QP.add64 rfl rfl rfl (by first | omega | (simp <;> omega)) (by first | omega | (simp <;> omega))).read ?_
     refine Sq.quiet (i := 2) rfl (Want.none rfl) rfl (ltN rfl) (QP.assign rfl rfl).read ?_
     refine Sq.nil ?_
     refine J.mapEq (M := impK M2 ((xs.take i).foldl (impK M2) []) e) (by repeat constructor) hsu.symm ?_
     exact J.envJ (J.keep (.cons (by repeat constructor) (.cons (by repeat constructor) (.cons (by repeat constructor) (.cons (by repeat constructor) Takes.nil)))) (hl14 (i + 1) (by omega) (by omega))) ⟨rfl, rfl, rfl, (congrArg (fun n => some (Value.int .i64 n)) (show _ = _ by rw [hsu]; rw [show impOk M2 ((xs.take i).foldl (impK M2) []) e = true from c41] at hlen; simp only [if_true, Bool.false_eq_true, if_false] at hlen; omega)), rfl, trivial⟩
    ·skip
     refine Sq.nil ?_
     refine hk18 _ _ ?_
     refine Run.cond_f rfl ?_
     refine Run.skip ?_
     refine hk17 _ _ ?_
     refine Run.region ?_
     show Sq _ _ _ [0, 1, 2] _ _ _ _
     refine Sq.quiet (i := 0) rfl (Want.none rfl) rfl (ltN rfl) (QP.move rfl rfl).read ?_
     refine Sq.quiet (i := 1) rfl (Want.none rfl) rfl (ltN rfl) (QP.add64 rfl rfl rfl (by first | omega | (simp <;> omega)) (by first | omega | (simp <;> omega))).read ?_
     refine Sq.quiet (i := 2) rfl (Want.none rfl) rfl (ltN rfl) (QP.assign rfl rfl).read ?_
     refine Sq.nil ?_
     refine J.mapEq (M := impK M2 ((xs.take i).foldl (impK M2) []) e) (by repeat constructor) hsu.symm ?_
     exact J.envJ (J.keep (.cons (by repeat constructor) (.cons (by repeat constructor) (.cons (by repeat constructor) (.cons (by repeat constructor) Takes.nil)))) (hl14 (i + 1) (by omega) (by omega))) ⟨rfl, rfl, rfl, (congrArg (fun n => some (Value.int .i64 n)) (show _ = _ by rw [hsu]; rw [show impOk M2 ((xs.take i).foldl (impK M2) []) e = false from c41] at hlen; simp only [if_true, Bool.false_eq_true, if_false] at hlen; omega)), rfl, trivial⟩
   ·skip
    refine Sq.nil ?_
    refine hk16 _ _ ?_
    refine Run.cond_f rfl ?_
    refine Run.exit rfl ?_
    refine hk12 _ _ ?_
    refine Run.seq fun k19 hk19 => ?_
    refine Run.region ?_
    show Sq _ _ _ [0, 1, 2] _ _ _ _
    have hall : xs.take i = xs := List.take_of_length_le (by omega)
    rw [hall]
    have hgood1 : GoodE (xs.foldl (impK M2) []) := GoodE.imps xs GoodE.nil
    have hap : Apart (xs.foldl (impK M2) []) M2 := Apart.imps xs (fun _ h => by cases h)
    obtain ⟨L1, hL1⟩ := hgood1.ord
    have hM1l : (xs.foldl (impK M2) []).length ≤ 1000000 := by have := (imp_len M2 xs []).2; simp only [List.length_nil] at this; omega
    have hL1l : L1.length ≤ 1000000 := by rw [hL1.length]; exact hM1l
    have hLL := hL1.length
    have hok1 : ∀ e ∈ L1, checkPairB e.pair = true := fun e he => hgood1.ok (e.pair, e) (alook_some (hL1.mem.1 he))
    generalize hMM : xs.foldl (impK M2) [] = M1 at hgood1 hap hL1 hM1l hLL ⊢
    refine Sq.quiet (i := 0) rfl (Want.none rfl) rfl (ltN rfl) (QP.move rfl rfl).read ?_
    refine Sq.eff (i := 1) rfl (Want.none rfl) rfl (ltN rfl) (EF.call rfl ce17 rfl (.cons (by repeat constructor) Takes.nil) (fun F' hle hr => list1_spec F' ⟨hr _ _ (by repeat constructor)⟩ hM1l hL1)) ?_
    rintro v45 _ ⟨_, rfl, rfl⟩
    refine J.app ?_
    refine Sq.slCase (v := v45) (xs := L1) (by repeat constructor) (fun a45 c45 hv45 hh45 => ?_)
    subst hv45
    refine Sq.quiet (i := 2) rfl (Want.none rfl) rfl (ltN rfl) (QP.assign rfl rfl).read ?_
    refine Sq.nil ?_
    refine hk19 _ _ ?_
    refine Run.seq fun k20 hk20 => ?_
    refine Run.seq fun k21 hk21 => ?_
    refine Run.region ?_
    show Sq _ _ _ [0, 1, 2, 3] _ _ _ _
    refine Sq.quiet (i := 0) rfl (Want.none rfl) rfl (ltN rfl) (QP.move rfl rfl).read ?_
    refine Sq.quiet (i := 1) rfl (Want.none rfl) rfl (ltN rfl) (QP.len rfl rfl rfl Try.underlying22).read ?_
    refine Sq.quiet (i := 2) rfl (Want.none rfl) rfl (ltN rfl) (QP.move rfl rfl).read ?_
    refine Sq.quiet (i := 3) rfl (Want.none rfl) rfl (ltN rfl) (QP.neq rfl rfl rfl).read ?_
    refine J.decF (by omega) ?_
    refine Sq.nil ?_
    refine hk21 _ _ ?_
    refine Run.cond_f rfl ?_
    refine Run.skip ?_
    refine hk20 _ _ ?_
    refine Run.seq fun k22 hk22 => ?_
    refine Run.seq fun k23 hk23 => ?_
    refine Run.region ?_
    show Sq _ _ _ [0] _ _ _ _
    refine Sq.quiet (i := 0) rfl (Want.none rfl) rfl (ltN rfl) (QP.assign rfl rfl).read ?_
    refine Sq.nil ?_
    refine hk23 _ _ ?_
    refine Run.block ?_
    refine Run.loop1 (fun (i : Nat) => i ≤ L2.length) (fun i => .cons 5 (.pointer (some ⟨kb, 0, none⟩)) (.cons 6 (.slice a28 L2.length c28) (.cons 9 (.slice a45 L1.length c45) (.cons 10 (.int .i64 i) (.nil))))) (fun i => [blk kb (KernelKernel.enc ⟨some kr1, some kr2, 0⟩) 64, mapE kr1 M1, mapE kr2 M2, slA 38 51 Entry.enc (.slice a28 L2.length c28) L2, slA 38 51 Entry.enc (.slice a45 L1.length c45) L1]) (fun i => L2.length - i) (0) (Nat.zero_le _) ?_ ?_
    ·exact fun _ j => J.envJ (J.keep (.cons (by repeat constructor) (.cons (by repeat constructor) (.cons (by repeat constructor) (.cons (by repeat constructor) (.cons (by repeat constructor) Takes.nil))))) j) ⟨rfl, rfl, rfl, rfl, trivial⟩
    rintro i hile2 kl24 hl24
    refine Run.seq fun k25 hk25 => ?_
    refine Run.seq fun k26 hk26 => ?_
    refine Run.region ?_
    show Sq _ _ _ [0, 1, 2, 3] _ _ _ _
    refine Sq.quiet (i := 0) rfl (Want.none rfl) rfl (ltN rfl) (QP.move rfl rfl).read ?_
    refine Sq.quiet (i := 1) rfl (Want.none rfl) rfl (ltN rfl) (QP.move rfl rfl).read ?_
    refine Sq.quiet (i := 2) rfl (Want.none rfl) rfl (ltN rfl) (QP.len rfl rfl rfl Try.underlying22).read ?_
    refine Sq.quiet (i := 3) rfl (Want.none rfl) rfl (ltN rfl) (QP.lss rfl rfl rfl).read ?_
    refine J.caseD (fun c53 => ?_) (fun c53 => ?_)
    ·skip
     refine Sq.nil ?_
     refine hk26 _ _ ?_
     refine Run.cond_t rfl ?_
     refine Run.skip ?_
     refine hk25 _ _ ?_
     refine Run.seq fun k27 hk27 => ?_
     refine Run.block ?_
     refine Run.seq fun k28 hk28 => ?_
     refine Run.region ?_
     show Sq _ _ _ [0, 1, 2, 3, 4, 5, 6, 7, 8, 9, 10, 11, 12, 13, 14, 15] _ _ _ _
     obtain ⟨e, hi⟩ : ∃ e, L2[i]? = some e := ⟨_, List.getElem?_eq_getElem (by omega)⟩
     obtain ⟨b0, o0, rfl⟩ := hh28.get (by omega)
     have hno : alook M1 e.pair = none := hap.look (hL.mem.1 (List.mem_of_getElem? hi))
     refine Sq.quiet (i := 0) rfl (Want.none rfl) rfl (ltN rfl) (QP.move rfl rfl).read ?_
     refine Sq.quiet (i := 1) rfl (Want.none rfl) rfl (ltN rfl) (QP.move rfl rfl).read ?_
     refine Sq.quiet (i := 2) rfl (Want.none rfl) rfl (ltN rfl) (QP.move rfl rfl).read ?_
     refine Sq.quiet (i := 3) rfl (Want.none rfl) rfl (ltN rfl) (QP.indexAddr rfl rfl rfl Try.underlying22 z38 (by first | omega | (simp <;> omega)) (by first | omega | (simp <;> omega))).read ?_
     refine Sq.quiet (i := 4) rfl (Want.none rfl) rfl (ltN rfl) (QR.loadSl rfl rfl g38 Entry.enc_len (SlAt.own Entry.enc_len (by repeat constructor)) hi) ?_
     refine Sq.quiet (i := 5) rfl (Want.none rfl) rfl (ltN rfl) (QP.build (l := Op.enc ⟨(3), (e)⟩) rfl st42 rfl (by exact ⟨rfl, ⟨(congrArg some (Entry.enc_len _).symm), trivial⟩⟩) rfl).read ?_
     refine Sq.eff (i := 6) rfl (Want.none rfl) rfl (ltN rfl) (EF.call rfl ce16 rfl (.cons (by repeat constructor) (.cons (by repeat constructor) (.cons (by repeat constructor) Takes.nil))) (fun F' hle hr => do_spec F' (by first | omega | decide | simp) _)) ?_
     rintro _ _ ⟨_, ⟨rfl, rfl⟩, rfl⟩
     refine J.app ?_
     rw [do_other hno (by decide)]
     refine Sq.quiet (i := 7) rfl (Want.none rfl) rfl (ltN rfl) (QP.move rfl rfl).read ?_
     refine Sq.quiet (i := 8) rfl (Want.yes rfl rfl rfl rfl) rfl (ltN rfl) (QP.move rfl rfl).read ?_
     refine Sq.quiet (i := 9) rfl (Want.yes rfl rfl rfl rfl) rfl (ltN rfl) (QP.move rfl rfl).read ?_
     refine Sq.quiet (i := 10) rfl (Want.yes rfl rfl rfl rfl) rfl (ltN rfl) (QP.move rfl rfl).read ?_
     refine Sq.quiet (i := 11) rfl (Want.yes rfl rfl rfl rfl) rfl (ltN rfl) (QP.indexAddr rfl rfl rfl Try.underlying22 z38 (by first | omega | (simp <;> omega)) (by first | omega | (simp <;> omega))).read ?_
     refine Sq.quiet (i := 12) rfl (Want.yes rfl rfl rfl rfl) rfl (ltN rfl) (QR.loadSl rfl rfl g38 Entry.enc_len (SlAt.own Entry.enc_len (by repeat constructor)) hi) ?_
     refine Sq.quiet (i := 13) rfl (Want.yes rfl rfl rfl rfl) rfl (ltN rfl) (QP.build (l := Op.enc ⟨(2), (e)⟩) rfl st42 rfl (by exact ⟨rfl, ⟨(congrArg some (Entry.enc_len _).symm), trivial⟩⟩) rfl).read ?_
     refine Sq.eff (i := 14) rfl (Want.yes rfl rfl rfl rfl) rfl (ltN rfl) (EF.call rfl ce16 rfl (.cons (by repeat constructor) (.cons (by repeat constructor) (.cons (by repeat constructor) Takes.nil))) (fun F' hle hr => do_spec F' (by first | omega | decide | simp) _)) ?_
     rintro _ _ ⟨_, ⟨rfl, rfl⟩, rfl⟩
     refine J.app ?_
     rw [do_other hno (by decide)]
     refine Sq.quiet (i := 15) rfl (Want.none rfl) rfl (ltN rfl) (QP.pick_f rfl rfl rfl).read ?_
     refine Sq.nil ?_
     refine hk28 _ _ ?_
     refine Run.cond_f rfl ?_
     refine Run.skip ?_
     refine hk27 _ _ ?_
     refine Run.region ?_
     show Sq _ _ _ [0, 1, 2] _ _ _ _
     refine Sq.quiet (i := 0) rfl (Want.none rfl) rfl (ltN rfl) (QP.move rfl rfl).read ?_
     refine Sq.quiet (i := 1) rfl (Want.none rfl) rfl (ltN rfl) (QP.add64 rfl rfl rfl (by first | omega | (simp <;> omega)) (by first | omega | (simp <;> omega))).read ?_
     refine Sq.quiet (i := 2) rfl (Want.none rfl) rfl (ltN rfl) (QP.assign rfl rfl).read ?_
     refine Sq.nil ?_
     exact J.envJ (J.keep (.cons (by repeat constructor) (.cons (by repeat constructor) (.cons (by repeat constructor) (.cons (by repeat constructor) (.cons (by repeat constructor) Takes.nil))))) (hl24 (i + 1) (by omega) (by omega))) ⟨rfl, rfl, rfl, rfl, trivial⟩
    ·skip
     refine Sq.nil ?_
     refine hk26 _ _ ?_
     refine Run.cond_f rfl ?_
     refine Run.exit rfl ?_
     refine hk22 _ _ ?_
     refine Run.seq fun k29 hk29 => ?_
     refine Run.seq fun k30 hk30 => ?_
     refine Run.region ?_
     show Sq _ _ _ [0] _ _ _ _
     refine Sq.quiet (i := 0) rfl (Want.none rfl) rfl (ltN rfl) (QP.assign rfl rfl).read ?_
     refine Sq.nil ?_
     refine hk30 _ _ ?_
     refine Run.block ?_
     refine Run.loop2 (fun (i : Nat) (Mi : TabE) => i ≤ L1.length ∧ OrdE Mi (L1.drop i)) (fun i Mi => .cons 5 (.pointer (some ⟨kb, 0, none⟩)) (.cons 6 (.slice a28 L2.length c28) (.cons 9 (.slice a45 L1.length c45) (.cons 11 (.int .i64 i) (.nil))))) (fun i Mi => [blk kb (KernelKernel.enc ⟨some kr1, some kr2, 0⟩) 64, mapE kr1 Mi, mapE kr2 M2, slA 38 51 Entry.enc (.slice a28 L2.length c28) L2, slA 38 51 Entry.enc (.slice a45 L1.length c45) L1]) (fun i Mi => L1.length - i) (0) (M1) (⟨Nat.zero_le _, by rw [List.drop_zero]; exact hL1⟩) ?_ ?_
     ·exact fun _ j => J.envJ (J.keep (.cons (by repeat constructor) (.cons (by repeat constructor) (.cons (by repeat constructor) (.cons (by repeat constructor) (.cons (by repeat constructor) Takes.nil))))) j) ⟨rfl, rfl, rfl, rfl, trivial⟩
     rintro i Mi ⟨hile3, hMi⟩ kl31 hl31
     refine Run.seq fun k32 hk32 => ?_
     refine Run.seq fun k33 hk33 => ?_
     refine Run.region ?_
     show Sq _ _ _ [0, 1, 2, 3] _ _ _ _
     refine Sq.quiet (i := 0) rfl (Want.none rfl) rfl (ltN rfl) (QP.move rfl rfl).read ?_
     refine Sq.quiet (i := 1) rfl (Want.none rfl) rfl (ltN rfl) (QP.move rfl rfl).read ?_
     refine Sq.quiet (i := 2) rfl (Want.none rfl) rfl (ltN rfl) (QP.len rfl rfl rfl Try.underlying22).read ?_
     refine Sq.quiet (i := 3) rfl (Want.none rfl) rfl (ltN rfl) (QP.lss rfl rfl rfl).read ?_
     refine J.caseD (fun c75 => ?_) (fun c75 => ?_)
     ·skip
      refine Sq.nil ?_
      refine hk33 _ _ ?_
      refine Run.cond_t rfl ?_
      refine Run.skip ?_
      refine hk32 _ _ ?_
      refine Run.seq fun k34 hk34 => ?_
      refine Run.block ?_
      refine Run.seq fun k35 hk35 => ?_
      refine Run.region ?_
      show Sq _ _ _ [0, 1, 2, 3, 4, 5, 6, 7, 8, 9, 10, 11, 12, 13, 14, 15, 16] _ _ _ _
      obtain ⟨e, hi⟩ : ∃ e, L1[i]? = some e := ⟨_, List.getElem?_eq_getElem (by omega)⟩
      obtain ⟨b0, o0, rfl⟩ := hh45.get (by omega)
      obtain ⟨hd1, hd2, hd3⟩ := ord_drop hMi hi
      refine Sq.quiet (i := 0) rfl (Want.none rfl) rfl (ltN rfl) (QP.move rfl rfl).read ?_
      refine Sq.quiet (i := 1) rfl (Want.none rfl) rfl (ltN rfl) (QP.move rfl rfl).read ?_
      refine Sq.quiet (i := 2) rfl (Want.none rfl) rfl (ltN rfl) (QP.move rfl rfl).read ?_
      refine Sq.quiet (i := 3) rfl (Want.none rfl) rfl (ltN rfl) (QP.indexAddr rfl rfl rfl Try.underlying22 z38 (by first | omega | (simp <;> omega)) (by first | omega | (simp <;> omega))).read ?_
      refine Sq.quiet (i := 4) rfl (Want.none rfl) rfl (ltN rfl) (QR.loadSl rfl rfl g38 Entry.enc_len (SlAt.own Entry.enc_len (by repeat constructor)) hi) ?_
      refine Sq.quiet (i := 5) rfl (Want.none rfl) rfl (ltN rfl) (QP.build (l := Op.enc ⟨(3), (e)⟩) rfl st42 rfl (by exact ⟨rfl, ⟨(congrArg some (Entry.enc_len _).symm), trivial⟩⟩) rfl).read ?_
      refine Sq.eff (i := 6) rfl (Want.none rfl) rfl (ltN rfl) (EF.call rfl ce16 rfl (.cons (by repeat constructor) (.cons (by repeat constructor) (.cons (by repeat constructor) Takes.nil))) (fun F' hle hr => do_spec F' (by first | omega | decide | simp) _)) ?_
      rintro _ _ ⟨_, ⟨rfl, rfl⟩, rfl⟩
      refine J.app ?_
      rw [do_rem hd1 (hok1 e (List.mem_of_getElem? hi))]
      refine Sq.quiet (i := 7) rfl (Want.none rfl) rfl (ltN rfl) (QP.not rfl rfl).read ?_
      refine Sq.quiet (i := 8) rfl (Want.none rfl) rfl (ltN rfl) (QP.move rfl rfl).read ?_
      refine Sq.quiet (i := 9) rfl (Want.yes rfl rfl rfl rfl) rfl (ltN rfl) (QP.move rfl rfl).read ?_
      refine Sq.quiet (i := 10) rfl (Want.yes rfl rfl rfl rfl) rfl (ltN rfl) (QP.move rfl rfl).read ?_
      refine Sq.quiet (i := 11) rfl (Want.yes rfl rfl rfl rfl) rfl (ltN rfl) (QP.move rfl rfl).read ?_
      refine Sq.quiet (i := 12) rfl (Want.yes rfl rfl rfl rfl) rfl (ltN rfl) (QP.indexAddr rfl rfl rfl Try.underlying22 z38 (by first | omega | (simp <;> omega)) (by first | omega | (simp <;> omega))).read ?_
      refine Sq.quiet (i := 13) rfl (Want.yes rfl rfl rfl rfl) rfl (ltN rfl) (QR.loadSl rfl rfl g38 Entry.enc_len (SlAt.own Entry.enc_len (by repeat constructor)) hi) ?_
      refine Sq.quiet (i := 14) rfl (Want.yes rfl rfl rfl rfl) rfl (ltN rfl) (QP.build (l := Op.enc ⟨(3), (e)⟩) rfl st42 rfl (by exact ⟨rfl, ⟨(congrArg some (Entry.enc_len _).symm), trivial⟩⟩) rfl).read ?_
      refine Sq.eff (i := 15) rfl (Want.yes rfl rfl rfl rfl) rfl (ltN rfl) (EF.call rfl ce16 rfl (.cons (by repeat constructor) (.cons (by repeat constructor) (.cons (by repeat constructor) Takes.nil))) (fun F' hle hr => do_spec F' (by first | omega | decide | simp) _)) ?_
      rintro _ _ ⟨_, ⟨rfl, rfl⟩, rfl⟩
      refine J.app ?_
      rw [do_other hd3 (by decide)]
      refine Sq.quiet (i := 16) rfl (Want.none rfl) rfl (ltN rfl) (QP.pick_f rfl rfl rfl).read ?_
      refine Sq.nil ?_
      refine hk35 _ _ ?_
      refine Run.cond_f rfl ?_
      refine Run.skip ?_
      refine hk34 _ _ ?_
      refine Run.region ?_
      show Sq _ _ _ [0, 1, 2] _ _ _ _
      refine Sq.quiet (i := 0) rfl (Want.none rfl) rfl (ltN rfl) (QP.move rfl rfl).read ?_
      refine Sq.quiet (i := 1) rfl (Want.none rfl) rfl (ltN rfl) (QP.add64 rfl rfl rfl (by first | omega | (simp <;> omega)) (by first | omega | (simp <;> omega))).read ?_
      refine Sq.quiet (i := 2) rfl (Want.none rfl) rfl (ltN rfl) (QP.assign rfl rfl).read ?_
      refine Sq.nil ?_
      exact J.envJ (J.keep (.cons (by repeat constructor) (.cons (by repeat constructor) (.cons (by repeat constructor) (.cons (by repeat constructor) (.cons (by repeat constructor) Takes.nil))))) (hl31 (i + 1) (adel Mi e.pair) (⟨by omega, hd2⟩) (by omega))) ⟨rfl, rfl, rfl, rfl, trivial⟩
     ·skip
      refine Sq.nil ?_
      refine hk33 _ _ ?_
      refine Run.cond_f rfl ?_
      refine Run.exit rfl ?_
      refine hk29 _ _ ?_
      refine Run.seq fun k36 hk36 => ?_
      refine Run.region ?_
      show Sq _ _ _ [0, 1, 2, 3, 4, 5, 6, 7, 8, 9, 10, 11, 12, 13] _ _ _ _
      have hMi0 : OrdE Mi [] := by rw [List.drop_of_length_le (by omega)] at hMi; exact hMi
      have hMil : Mi.length ≤ 1000000 := by rw [← hMi0.length]; decide
      refine Sq.quiet (i := 0) rfl (Want.none rfl) rfl (ltN rfl) (QP.move rfl rfl).read ?_
      refine Sq.eff (i := 1) rfl (Want.none rfl) rfl (ltN rfl) (EF.call rfl ce17 rfl (.cons (by repeat constructor) Takes.nil) (fun F' hle hr => list1_spec F' ⟨hr _ _ (by repeat constructor)⟩ hMil hMi0)) ?_
      rintro v96 _ ⟨_, rfl, rfl⟩
      refine J.app ?_
      refine Sq.slCase (v := v96) (xs := ([] : List Entry)) (by repeat constructor) (fun a96 c96 hv96 hh96 => ?_)
      subst hv96
      refine Sq.quiet (i := 2) rfl (Want.none rfl) rfl (ltN rfl) (QP.len rfl rfl rfl Try.underlying22).read ?_
      refine Sq.quiet (i := 3) rfl (Want.none rfl) rfl (ltN rfl) (QP.eql rfl rfl rfl).read ?_
      refine J.decT (by rfl) ?_
      refine Sq.quiet (i := 4) rfl (Want.none rfl) rfl (ltN rfl) (QP.move rfl rfl).read ?_
      refine Sq.quiet (i := 5) rfl (Want.yes rfl rfl rfl rfl) rfl (ltN rfl) (QP.move rfl rfl).read ?_
      refine Sq.eff (i := 6) rfl (Want.yes rfl rfl rfl rfl) rfl (ltN rfl) (EF.call rfl ce11 rfl (.cons (by repeat constructor) Takes.nil) (fun F' hle hr => imported_spec F' ⟨hr _ _ (by repeat constructor)⟩ hMl hL)) ?_
      rintro v101 _ ⟨_, rfl, rfl⟩
      refine J.app ?_
      refine Sq.slCase (v := v101) (xs := L2) (by repeat constructor) (fun a101 c101 hv101 hh101 => ?_)
      subst hv101
      refine Sq.quiet (i := 7) rfl (Want.yes rfl rfl rfl rfl) rfl (ltN rfl) (QP.move rfl rfl).read ?_
      refine Sq.eff (i := 8) rfl (Want.yes rfl rfl rfl rfl) rfl (ltN rfl) (EF.call rfl ce18 rfl (.cons (by repeat constructor) (.cons (by repeat constructor) Takes.nil)) (fun F' hle hr => sameE F' hh101 hh28 hLl hLl)) ?_
      rintro _ _ ⟨_, ⟨rfl, rfl⟩, rfl⟩
      refine J.app ?_
      refine J.boolT (by simp) ?_
      refine Sq.quiet (i := 9) rfl (Want.none rfl) rfl (ltN rfl) (QP.pick_t rfl rfl rfl).read ?_
      refine Sq.quiet (i := 10) rfl (Want.none rfl) rfl (ltN rfl) (QP.move rfl rfl).read ?_
      refine Sq.eff (i := 11) rfl (Want.yes rfl rfl rfl rfl) rfl (ltN rfl) (EF.call rfl ce8 rfl Takes.nil (fun F' hle hr => live_spec F')) ?_
      rintro _ _ ⟨_, ⟨rfl, rfl⟩, rfl⟩
      refine J.app ?_
      refine Sq.quiet (i := 12) rfl (Want.none rfl) rfl (ltN rfl) (QP.pick_t rfl rfl rfl).read ?_
      refine Sq.quiet (i := 13) rfl (Want.none rfl) rfl (ltN rfl) (QP.assign rfl rfl).read ?_
      refine Sq.nil ?_
      refine hk36 _ _ ?_
      refine Run.ret ?_
      exact J.ends (res_tmp rfl rfl) Takes.nil ⟨rfl, rfl⟩
end Slb
