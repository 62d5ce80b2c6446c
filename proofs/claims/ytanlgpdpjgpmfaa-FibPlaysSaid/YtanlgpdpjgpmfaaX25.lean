/- X25: a part of the proof that a law of this package holds for every input; no condition. -/
import Derived.Test.YtanlgpdpjgpmfaaX24
import Derived.Test.YtanlgpdpjgpmfaaX17
namespace Slb
open Go Go.Proofs
set_option maxRecDepth 20000
theorem rfam_spec (F : Fr) (p : Prefix) : Spec Try.prog 44 #[.agg (Prefix.enc p).toArray] [] F (fun v S => v = .int .i64 (pfamilyB p) ∧ S = []) := by
 refine Spec.intro (N := 5) (args := [.agg (Prefix.enc p).toArray]) Try.func44 rfl rfl (by simp) ?_
 refine Run.seq fun k1 hk1 => ?_
 refine Run.region ?_
 show Sq _ _ _ [0, 1] _ _ _ _
 refine Sq.eff (i := 0) rfl (Want.none rfl) rfl (ltN rfl) (EF.boxA rfl rfl) ?_
 rintro _ _ ⟨b1, rfl, rfl⟩
 refine Sq.quiet (i := 1) rfl (Want.none rfl) rfl (ltN rfl) (QP.assign rfl rfl).read ?_
 refine Sq.nil ?_
 refine hk1 _ _ ?_
 refine Run.seq fun k2 hk2 => ?_
 refine Run.region ?_
 show Sq _ _ _ [0, 1, 2] _ _ _ _
 refine Sq.quiet (i := 0) rfl (Want.none rfl) rfl (ltN rfl) (QR.load rfl rfl g37 (Prefix.enc_sub _)) ?_
 refine Sq.eff (i := 1) rfl (Want.none rfl) rfl (ltN rfl) (EF.call rfl ce61 rfl Takes.nil (fun F' hle hr => rpfamily_spec F' (p))) ?_
 rintro _ _ ⟨_, ⟨rfl, rfl⟩, rfl⟩
 refine J.app ?_
 refine Sq.quiet (i := 2) rfl (Want.none rfl) rfl (ltN rfl) (QP.assign rfl rfl).read ?_
 refine Sq.nil ?_
 refine hk2 _ _ ?_
 refine Run.ret ?_
 exact J.ends (res_tmp rfl rfl) Takes.nil ⟨rfl, rfl⟩

theorem impE {M : TabE} {L : List Entry} (h : OrdE M L) {e : Entry} (hc : checkPairB e.pair = true) (hn : ∀ x ∈ L, x.pair ≠ e.pair) {L' : List Entry} (hp : RPut L e L') : OrdE (impK [] M e) L' := by
  have hq : alook M e.pair = none := h.look_none.2 hn
  rw [impK_yes (by unfold impOk; rw [hq, hc]; rfl)]
  exact hp.ord h
theorem imp_same {M : TabE} {L : List Entry} (h : OrdE M L) {e : Entry} (hc : checkPairB e.pair = false ∨ ∃ x ∈ L, x.pair = e.pair) : OrdE (impK [] M e) L := by
  rw [impK_no ?_]
  · exact h
  · unfold impOk
    rcases hc with hc | ⟨x, hx, hxe⟩
    · rw [hc]; simp
    · have := h.mem.1 hx
      rw [hxe] at this
      rw [this]; simp

theorem rclean_spec (F : Fr) {a : Option Addr} {c : Nat} {xs : List Entry} (ha : ArgSl F a 51 Entry.enc xs) (hl : xs.length ≤ 24) : Spec Try.prog 42 #[.slice a xs.length c] [] F (fun v S => ∃ L, OrdE (xs.foldl (impK []) []) L ∧ S = [slA 41 51 Entry.enc v L]) := by
 refine Spec.intro (N := 35) (args := [.slice a xs.length c]) Try.func42 rfl rfl (by simp) ?_
 refine Run.seq fun k1 hk1 => ?_
 refine Run.region ?_
 show Sq _ _ _ [0] _ _ _ _
 refine Sq.quiet (i := 0) rfl (Want.none rfl) rfl (ltN rfl) (QP.assign rfl rfl).read ?_
 refine Sq.nil ?_
 refine hk1 _ _ ?_
 refine Run.seq fun k2 hk2 => ?_
 refine Run.region ?_
 show Sq _ _ _ [0] _ _ _ _
 refine J.addSl 41 51 Entry.enc ?_
 refine Sq.quiet (i := 0) rfl (Want.none rfl) rfl (ltN rfl) (QP.assign rfl rfl).read ?_
 refine Sq.nil ?_
 refine hk2 _ _ ?_
 refine Run.seq fun k3 hk3 => ?_
 refine Run.seq fun k4 hk4 => ?_
 refine Run.region ?_
 show Sq _ _ _ [0] _ _ _ _
 refine Sq.quiet (i := 0) rfl (Want.none rfl) rfl (ltN rfl) (QP.assign rfl rfl).read ?_
 refine Sq.nil ?_
 refine hk4 _ _ ?_
 refine Run.block ?_
 refine Run.loop3 (fun (i : Nat) (vo : Value) (O : List Entry) => i ≤ xs.length ∧ OrdE ((xs.take i).foldl (impK []) []) O) (fun i vo O => .cons 0 (.slice a xs.length c) (.cons 3 (vo) (.cons 4 (.int .i64 i) (.nil)))) (fun i vo O => [slA 41 51 Entry.enc vo O]) (fun i vo O => xs.length - i) (0) (.slice none 0 0) ([]) (⟨Nat.zero_le _, InOrder.nil⟩) ?_ ?_
 ·exact fun _ j => J.envJ (J.keep (.cons (by repeat constructor) Takes.nil) j) ⟨rfl, rfl, rfl, trivial⟩
 rintro i vo O ⟨hile, hord⟩ kl5 hl5
 refine Run.seq fun k6 hk6 => ?_
 refine Run.seq fun k7 hk7 => ?_
 refine Run.region ?_
 show Sq _ _ _ [0, 1, 2, 3] _ _ _ _
 refine Sq.quiet (i := 0) rfl (Want.none rfl) rfl (ltN rfl) (QP.move rfl rfl).read ?_
 refine Sq.quiet (i := 1) rfl (Want.none rfl) rfl (ltN rfl) (QP.move rfl rfl).read ?_
 refine Sq.quiet (i := 2) rfl (Want.none rfl) rfl (ltN rfl) (QP.len rfl rfl rfl Try.underlying22).read ?_
 refine Sq.quiet (i := 3) rfl (Want.none rfl) rfl (ltN rfl) (QP.lss rfl rfl rfl).read ?_
 refine J.caseD (fun c8 => ?_) (fun c8 => ?_)
 ·skip
  refine Sq.nil ?_
  refine hk7 _ _ ?_
  refine Run.cond_t rfl ?_
  refine Run.skip ?_
  refine hk6 _ _ ?_
  refine Run.seq fun k8 hk8 => ?_
  refine Run.block ?_
  refine Run.seq fun k9 hk9 => ?_
  refine Run.region ?_
  show Sq _ _ _ [0, 1, 2, 3, 4, 5, 6, 7, 8, 9, 10, 11, 12, 13, 14, 15, 16] _ _ _ _
  have hlt : i < xs.length := by omega
  obtain ⟨x, hi⟩ : ∃ x, xs[i]? = some x := ⟨_, List.getElem?_eq_getElem hlt⟩
  obtain ⟨b0, o0, rfl, hs0⟩ := ha.get (by omega)
  have hsu : (xs.take (i + 1)).foldl (impK []) [] = impK [] ((xs.take i).foldl (impK []) []) x := by rw [List.take_add_one, hi, Option.toList_some, List.foldl_append]; rfl
  have hOl := hord.length
  have hil := (imp_len [] (xs.take i) []).2
  have htl : (xs.take i).length ≤ 24 := by rw [List.length_take]; omega
  simp only [List.length_nil] at hil
  refine Sq.slCase (v := vo) (xs := O) (by repeat constructor) (fun av cv hvv hhv => ?_)
  subst hvv
  refine Sq.quiet (i := 0) rfl (Want.none rfl) rfl (ltN rfl) (QP.move rfl rfl).read ?_
  refine Sq.quiet (i := 1) rfl (Want.none rfl) rfl (ltN rfl) (QP.move rfl rfl).read ?_
  refine Sq.quiet (i := 2) rfl (Want.none rfl) rfl (ltN rfl) (QP.indexAddr rfl rfl rfl Try.underlying22 z41 (by first | omega | (simp <;> omega)) (by first | omega | (simp <;> omega))).read ?_
  refine Sq.quiet (i := 3) rfl (Want.none rfl) rfl (ltN rfl) (QP.fieldAddr rfl rfl f41_0).read ?_
  refine Sq.quiet (i := 4) rfl (Want.none rfl) rfl (ltN rfl) (QR.loadSlF rfl rfl g39 Entry.enc_len (hs0 _) hi (Entry.sub_pair _)) ?_
  refine Sq.eff (i := 5) rfl (Want.none rfl) rfl (ltN rfl) (EF.call rfl ce58 rfl Takes.nil (fun F' hle hr => rcheckPair_spec F' ((x).pair))) ?_
  rintro _ _ ⟨_, ⟨rfl, rfl⟩, rfl⟩
  refine J.app ?_
  refine Sq.quiet (i := 6) rfl (Want.none rfl) rfl (ltN rfl) (QP.eql rfl rfl rfl).read ?_
  refine J.caseD (fun c17 => ?_) (fun c17 => ?_)
  ·skip
   refine Sq.quiet (i := 7) rfl (Want.none rfl) rfl (ltN rfl) (QP.move rfl rfl).read ?_
   refine Sq.quiet (i := 8) rfl (Want.yes rfl rfl rfl rfl) rfl (ltN rfl) (QP.move rfl rfl).read ?_
   refine Sq.quiet (i := 9) rfl (Want.yes rfl rfl rfl rfl) rfl (ltN rfl) (QP.move rfl rfl).read ?_
   refine Sq.quiet (i := 10) rfl (Want.yes rfl rfl rfl rfl) rfl (ltN rfl) (QP.move rfl rfl).read ?_
   refine Sq.quiet (i := 11) rfl (Want.yes rfl rfl rfl rfl) rfl (ltN rfl) (QP.indexAddr rfl rfl rfl Try.underlying22 z41 (by first | omega | (simp <;> omega)) (by first | omega | (simp <;> omega))).read ?_
   refine Sq.quiet (i := 12) rfl (Want.yes rfl rfl rfl rfl) rfl (ltN rfl) (QP.fieldAddr rfl rfl f41_0).read ?_
   refine Sq.quiet (i := 13) rfl (Want.yes rfl rfl rfl rfl) rfl (ltN rfl) (QR.loadSlF rfl rfl g39 Entry.enc_len (hs0 _) hi (Entry.sub_pair _)) ?_
   refine Sq.eff (i := 14) rfl (Want.yes rfl rfl rfl rfl) rfl (ltN rfl) (EF.call rfl ce29 rfl (.cons (by repeat constructor) Takes.nil) (fun F' hle hr => find_spec F' (by omega) hhv _)) ?_
   rintro _ _ ⟨_, ⟨rfl, n25, rfl, hfind⟩, rfl⟩
   refine J.app ?_
   refine Sq.quiet (i := 15) rfl (Want.yes rfl rfl rfl rfl) rfl (ltN rfl) (QP.lss rfl rfl rfl).read ?_
   refine J.caseD (fun c26 => ?_) (fun c26 => ?_)
   ·skip
    refine Sq.quiet (i := 16) rfl (Want.none rfl) rfl (ltN rfl) (QP.pick_t rfl rfl rfl).read ?_
    refine Sq.nil ?_
    refine hk9 _ _ ?_
    refine Run.cond_t rfl ?_
    refine Run.region ?_
    show Sq _ _ _ [0, 1, 2, 3, 4, 5, 6] _ _ _ _
    refine Sq.quiet (i := 0) rfl (Want.none rfl) rfl (ltN rfl) (QP.move rfl rfl).read ?_
    refine Sq.quiet (i := 1) rfl (Want.none rfl) rfl (ltN rfl) (QP.move rfl rfl).read ?_
    refine Sq.quiet (i := 2) rfl (Want.none rfl) rfl (ltN rfl) (QP.move rfl rfl).read ?_
    refine Sq.quiet (i := 3) rfl (Want.none rfl) rfl (ltN rfl) (QP.indexAddr rfl rfl rfl Try.underlying22 z41 (by first | omega | (simp <;> omega)) (by first | omega | (simp <;> omega))).read ?_
    refine Sq.quiet (i := 4) rfl (Want.none rfl) rfl (ltN rfl) (QR.loadSl rfl rfl g41 Entry.enc_len (hs0 _) hi) ?_
    refine Sq.eff (i := 5) rfl (Want.none rfl) rfl (ltN rfl) (EF.call rfl ce30 rfl (.cons (by repeat constructor) Takes.nil) (fun F' hle hr => put_spec F' hhv (by omega) hord.sort x)) ?_
    rintro v33 _ ⟨_, ⟨L2, hput, rfl⟩, rfl⟩
    refine J.app ?_
    refine Sq.quiet (i := 6) rfl (Want.none rfl) rfl (ltN rfl) (QP.assign rfl rfl).read ?_
    refine Sq.nil ?_
    refine hk8 _ _ ?_
    refine Run.region ?_
    show Sq _ _ _ [0, 1, 2] _ _ _ _
    refine Sq.quiet (i := 0) rfl (Want.none rfl) rfl (ltN rfl) (QP.move rfl rfl).read ?_
    refine Sq.quiet (i := 1) rfl (Want.none rfl) rfl (ltN rfl) (QP.add64 rfl rfl rfl (by first | omega | (simp <;> omega)) (by first | omega | (simp <;> omega))).read ?_
    refine Sq.quiet (i := 2) rfl (Want.none rfl) rfl (ltN rfl) (QP.assign rfl rfl).read ?_
    refine Sq.nil ?_
    exact J.envJ (J.keep (.cons (by repeat constructor) Takes.nil) (hl5 (i + 1) (v33) (_) (⟨by omega, by rw [hsu]; exact impE hord (erno_zero.1 c17) (by rcases hfind with ⟨_, h⟩ | ⟨k, y, h, _, _⟩; exact h; omega) hput⟩) (by omega))) ⟨rfl, rfl, rfl, trivial⟩
   ·skip
    refine Sq.quiet (i := 16) rfl (Want.none rfl) rfl (ltN rfl) (QP.pick_t rfl rfl rfl).read ?_
    refine Sq.nil ?_
    refine hk9 _ _ ?_
    refine Run.cond_f rfl ?_
    refine Run.skip ?_
    refine hk8 _ _ ?_
    refine Run.region ?_
    show Sq _ _ _ [0, 1, 2] _ _ _ _
    refine Sq.quiet (i := 0) rfl (Want.none rfl) rfl (ltN rfl) (QP.move rfl rfl).read ?_
    refine Sq.quiet (i := 1) rfl (Want.none rfl) rfl (ltN rfl) (QP.add64 rfl rfl rfl (by first | omega | (simp <;> omega)) (by first | omega | (simp <;> omega))).read ?_
    refine Sq.quiet (i := 2) rfl (Want.none rfl) rfl (ltN rfl) (QP.assign rfl rfl).read ?_
    refine Sq.nil ?_
    exact J.envJ (J.keep (.cons (by repeat constructor) Takes.nil) (hl5 (i + 1) (.slice av O.length cv) (_) (⟨by omega, by rw [hsu]; exact imp_same hord (.inr (by rcases hfind with ⟨h1, _⟩ | ⟨k, y, _, h2, h3⟩; omega; exact ⟨y, List.mem_of_getElem? h2, h3⟩))⟩) (by omega))) ⟨rfl, rfl, rfl, trivial⟩
  ·skip
   refine Sq.quiet (i := 7) rfl (Want.none rfl) rfl (ltN rfl) (QP.move rfl rfl).read ?_
   refine Sq.skip (i := 8) rfl (Want.no rfl rfl rfl rfl) rfl (ltN rfl) ?_
   refine Sq.skip (i := 9) rfl (Want.no rfl rfl rfl rfl) rfl (ltN rfl) ?_
   refine Sq.skip (i := 10) rfl (Want.no rfl rfl rfl rfl) rfl (ltN rfl) ?_
   refine Sq.skip (i := 11) rfl (Want.no rfl rfl rfl rfl) rfl (ltN rfl) ?_
   refine Sq.skip (i := 12) rfl (Want.no rfl rfl rfl rfl) rfl (ltN rfl) ?_
   refine Sq.skip (i := 13) rfl (Want.no rfl rfl rfl rfl) rfl (ltN rfl) ?_
   refine Sq.skip (i := 14) rfl (Want.no rfl rfl rfl rfl) rfl (ltN rfl) ?_
   refine Sq.skip (i := 15) rfl (Want.no rfl rfl rfl rfl) rfl (ltN rfl) ?_
   refine Sq.quiet (i := 16) rfl (Want.none rfl) rfl (ltN rfl) (QP.pick_f rfl rfl rfl).read ?_
   refine Sq.nil ?_
   refine hk9 _ _ ?_
   refine Run.cond_f rfl ?_
   refine Run.skip ?_
   refine hk8 _ _ ?_
   refine Run.region ?_
   show Sq _ _ _ [0, 1, 2] _ _ _ _
   refine Sq.quiet (i := 0) rfl (Want.none rfl) rfl (ltN rfl) (QP.move rfl rfl).read ?_
   refine Sq.quiet (i := 1) rfl (Want.none rfl) rfl (ltN rfl) (QP.add64 rfl rfl rfl (by first | omega | (simp <;> omega)) (by first | omega | (simp <;> omega))).read ?_
   refine Sq.quiet (i := 2) rfl (Want.none rfl) rfl (ltN rfl) (QP.assign rfl rfl).read ?_
   refine Sq.nil ?_
   exact J.envJ (J.keep (.cons (by repeat constructor) Takes.nil) (hl5 (i + 1) (.slice av O.length cv) (_) (⟨by omega, by rw [hsu]; exact imp_same hord (.inl (by cases hq : checkPairB x.pair with | false => rfl | true => exact absurd (erno_zero.2 hq) c17))⟩) (by omega))) ⟨rfl, rfl, rfl, trivial⟩
 ·skip
  refine Sq.nil ?_
  refine hk7 _ _ ?_
  refine Run.cond_f rfl ?_
  refine Run.exit rfl ?_
  refine hk3 _ _ ?_
  refine Run.seq fun k10 hk10 => ?_
  refine Run.region ?_
  show Sq _ _ _ [0, 1] _ _ _ _
  refine Sq.quiet (i := 0) rfl (Want.none rfl) rfl (ltN rfl) (QP.move rfl rfl).read ?_
  refine Sq.quiet (i := 1) rfl (Want.none rfl) rfl (ltN rfl) (QP.assign rfl rfl).read ?_
  refine Sq.nil ?_
  refine hk10 _ _ ?_
  refine Run.ret ?_
  exact J.ends (res_tmp rfl rfl) (.cons (by repeat constructor) Takes.nil) ⟨O, by rw [List.take_of_length_le (by omega)] at hord; exact hord, rfl⟩

theorem OrdE.good {M : TabE} {L : List Entry} (h : OrdE M L) (hg : GoodE M) {x : Entry} (hx : x ∈ L) : checkPairB x.pair = true := hg.ok (x.pair, x) (alook_some (h.mem.1 hx))
/-- The place of the best one so far. -/
def BestAt (L : List Entry) (p : Pair) (k : Nat) (bi : Int) : Prop := (bi = -1 ∧ (L.take k).foldl (bstep p) (Entry.zero, false) = (Entry.zero, false)) ∨ ∃ (b : Nat) (e : Entry), bi = b ∧ L[b]? = some e ∧ (L.take k).foldl (bstep p) (Entry.zero, false) = (e, true)
theorem BestAt.zero (L : List Entry) (p : Pair) : BestAt L p 0 (-1) := .inl ⟨rfl, by simp⟩
theorem bfold_succ {L : List Entry} (p : Pair) {k : Nat} {z : Entry} (hk : L[k]? = some z) : (L.take (k + 1)).foldl (bstep p) (Entry.zero, false) = bstep p ((L.take k).foldl (bstep p) (Entry.zero, false)) z := by rw [List.take_add_one, hk, Option.toList_some, List.foldl_append]; rfl
theorem BestAt.skip {L : List Entry} {p : Pair} {k : Nat} {bi : Int} (h : BestAt L p k bi) {z : Entry} (hk : L[k]? = some z) (hm : meansB p z = false) : BestAt L p (k + 1) bi := by
  unfold BestAt
  rw [bfold_succ p hk]
  have hb : ∀ r, bstep p r z = r := fun r => by unfold bstep; rw [hm]; rfl
  rw [hb]
  exact h
theorem BestAt.take {L : List Entry} {p : Pair} {k : Nat} {bi : Int} (h : BestAt L p k bi) {z : Entry} (hk : L[k]? = some z) (hm : meansB p z = true) (hb : bi < 0 ∨ ∃ (b : Nat) (e : Entry), bi = b ∧ L[b]? = some e ∧ betterE e z = true) : BestAt L p (k + 1) k := by
  refine .inr ⟨k, z, rfl, hk, ?_⟩
  rw [bfold_succ p hk]
  rcases h with ⟨h1, h2⟩ | ⟨b, e, h1, h2, h3⟩
  · rw [h2]; unfold bstep; rw [hm]; rfl
  · rcases hb with hb | ⟨b', e', e1, e2, e3⟩
    · omega
    · have : b' = b := by omega
      subst this
      rw [h2] at e2
      cases e2
      rw [h3]; unfold bstep; rw [hm, e3]; rfl
theorem BestAt.stay {L : List Entry} {p : Pair} {k : Nat} {bi : Int} (h : BestAt L p k bi) {z : Entry} (hk : L[k]? = some z) {b : Nat} {e : Entry} (h1 : bi = b) (h2 : L[b]? = some e) (h3 : betterE e z = false) : BestAt L p (k + 1) bi := by
  rcases h with ⟨e1, _⟩ | ⟨b', e', e1, e2, e3⟩
  · omega
  · have : b' = b := by omega
    subst this
    rw [h2] at e2
    cases e2
    refine .inr ⟨b', e, h1, h2, ?_⟩
    rw [bfold_succ p hk, e3]
    unfold bstep
    cases meansB p z
    · rfl
    · rw [h3]; rfl
theorem BestAt.done {L : List Entry} {p : Pair} {bi : Int} (h : BestAt L p L.length bi) {x : Entry} (hx : x ∈ L) (hm : meansB p x = true) : ∃ (b : Nat) (e : Entry), bi = b ∧ L[b]? = some e ∧ bestB L p = e := by
  obtain ⟨b1, b2, b3⟩ := best_of hx hm
  unfold BestAt at h
  rw [List.take_of_length_le (Nat.le_refl _)] at h
  rcases h with ⟨h1, h2⟩ | ⟨b, e, h1, h2, h3⟩
  · have hf := fold_meant p L
    rw [h2] at hf
    exfalso
    have := hf.no rfl x hx
    rw [hm] at this; cases this
  · exact ⟨b, e, h1, h2, by unfold bestB; rw [h3]⟩
theorem expK_yes {L : List Entry} {x y : Entry} (h : expOk x y = true) (M : TabE) : expK L x M y = aset M (expP x y) (expE L x y) := by unfold expK; rw [if_pos h]
theorem expOk_iff {L : List Entry} (hg : ∀ z ∈ L, checkPairB z.pair = true) {x y : Entry} (hx : x ∈ L) (hy : y ∈ L) : expOk x y = true ↔ coversB y.pair.dst x.pair.dst = true ∧ pfamilyB y.pair.src = pfamilyB x.pair.dst := by
  unfold expOk
  rw [Bool.and_eq_true, checkPair_iff]
  obtain ⟨h1, _, _⟩ := checkPair_iff.1 (hg x hx)
  obtain ⟨_, h2, _⟩ := checkPair_iff.1 (hg y hy)
  exact ⟨fun h => ⟨h.1, h.2.2.2.symm⟩, fun h => ⟨h.1, h1, h2, h.2.symm⟩⟩
theorem exp_means {L : List Entry} (hg : ∀ z ∈ L, checkPairB z.pair = true) {x y : Entry} (hx : x ∈ L) (hy : y ∈ L) (h : expOk x y = true) : meansB (expP x y) y = true := by
  obtain ⟨h1, h2⟩ := (expOk_iff hg hx hy).1 h
  obtain ⟨_, h3, h4⟩ := checkPair_iff.1 (hg y hy)
  unfold meansB
  rw [show coversB y.pair.dst (expP x y).dst = true from h1, show coversB y.pair.src (expP x y).src = true from covers_refl h3, decide_eq_true (show pfamilyB y.pair.dst = pfamilyB (expP x y).dst by rw [h4, h2]; rfl)]
  rfl

set_option maxHeartbeats 3000000 in
theorem rexpand_spec (F : Fr) {a : Option Addr} {c : Nat} {xs : List Entry} (ha : ArgSl F a 51 Entry.enc xs) (hl : xs.length ≤ 24) : Spec Try.prog 13 #[.slice a xs.length c] [] F (fun v S => ∃ L' : List Entry, Expands xs L' ∧ S = [slA 41 51 Entry.enc v L']) := by
 refine Spec.intro (N := 143) (args := [.slice a xs.length c]) Try.func13 rfl rfl (by simp) ?_
 refine Run.seq fun k1 hk1 => ?_
 refine Run.region ?_
 show Sq _ _ _ [0] _ _ _ _
 refine Sq.quiet (i := 0) rfl (Want.none rfl) rfl (ltN rfl) (QP.assign rfl rfl).read ?_
 refine Sq.nil ?_
 refine hk1 _ _ ?_
 refine Run.seq fun k2 hk2 => ?_
 refine Run.region ?_
 show Sq _ _ _ [0, 1, 2] _ _ _ _
 refine Sq.quiet (i := 0) rfl (Want.none rfl) rfl (ltN rfl) (QP.move rfl rfl).read ?_
 refine Sq.eff (i := 1) rfl (Want.none rfl) rfl (ltN rfl) (EF.call rfl ce42 rfl Takes.nil (fun F' hle hr => rclean_spec F' (ha.mono hle) hl)) ?_
 rintro v12 _ ⟨_, ⟨L, hL0, rfl⟩, rfl⟩
 refine J.app ?_
 refine Sq.slCase (v := v12) (xs := L) (by repeat constructor) (fun al cl hvl hhl => ?_)
 subst hvl
 have hg : ∀ z ∈ L, checkPairB z.pair = true := fun z hz => OrdE.good hL0 (GoodE.imps xs GoodE.nil) hz
 have hLn : L.length ≤ 24 := by rw [hL0.length]; have := (imp_len [] xs []).2; simp only [List.length_nil] at this; omega
 refine J.addSl 41 51 Entry.enc ?_
 refine Sq.quiet (i := 2) rfl (Want.none rfl) rfl (ltN rfl) (QP.assign rfl rfl).read ?_
 refine Sq.nil ?_
 refine hk2 _ _ ?_
 refine Run.seq fun k3 hk3 => ?_
 refine Run.region ?_
 show Sq _ _ _ [0] _ _ _ _
 refine Sq.quiet (i := 0) rfl (Want.none rfl) rfl (ltN rfl) (QP.assign rfl rfl).read ?_
 refine Sq.nil ?_
 refine hk3 _ _ ?_
 refine Run.seq fun k4 hk4 => ?_
 refine Run.seq fun k5 hk5 => ?_
 refine Run.region ?_
 show Sq _ _ _ [0] _ _ _ _
 refine Sq.quiet (i := 0) rfl (Want.none rfl) rfl (ltN rfl) (QP.assign rfl rfl).read ?_
 refine Sq.nil ?_
 refine hk5 _ _ ?_
 refine Run.block ?_
 refine Run.loop3 (fun (i : Nat) (vo : Value) (O : List Entry) => i ≤ L.length ∧ OrdE ((L.take i).foldl (expR L) []) O) (fun i vo O => .cons 0 (.slice al L.length cl) (.cons 3 (vo) (.cons 4 (.int .i64 i) (.nil)))) (fun i vo O => [slA 41 51 Entry.enc (.slice al L.length cl) L, slA 41 51 Entry.enc vo O]) (fun i vo O => L.length - i) (0) (.slice none 0 0) ([]) (⟨Nat.zero_le _, InOrder.nil⟩) ?_ ?_
 ·exact fun _ j => J.envJ (J.keep (.cons (by repeat constructor) (.cons (by repeat constructor) Takes.nil)) j) ⟨rfl, rfl, rfl, trivial⟩
 rintro i vo O ⟨hile, hord⟩ kl6 hl6
 refine Run.seq fun k7 hk7 => ?_
 refine Run.seq fun k8 hk8 => ?_
 refine Run.region ?_
 show Sq _ _ _ [0, 1, 2, 3] _ _ _ _
 refine Sq.quiet (i := 0) rfl (Want.none rfl) rfl (ltN rfl) (QP.move rfl rfl).read ?_
 refine Sq.quiet (i := 1) rfl (Want.none rfl) rfl (ltN rfl) (QP.move rfl rfl).read ?_
 refine Sq.quiet (i := 2) rfl (Want.none rfl) rfl (ltN rfl) (QP.len rfl rfl rfl Try.underlying22).read ?_
 refine Sq.quiet (i := 3) rfl (Want.none rfl) rfl (ltN rfl) (QP.lss rfl rfl rfl).read ?_
 refine J.caseD (fun c16 => ?_) (fun c16 => ?_)
 ·skip
  refine Sq.nil ?_
  refine hk8 _ _ ?_
  refine Run.cond_t rfl ?_
  refine Run.skip ?_
  refine hk7 _ _ ?_
  refine Run.seq fun k9 hk9 => ?_
  refine Run.block ?_
  refine Run.seq fun k10 hk10 => ?_
  refine Run.region ?_
  show Sq _ _ _ [0] _ _ _ _
  obtain ⟨x, hi⟩ : ∃ x, L[i]? = some x := ⟨_, List.getElem?_eq_getElem (by omega)⟩
  have hsx : (L.take (i + 1)).foldl (expR L) [] = L.foldl (expK L x) ((L.take i).foldl (expR L) []) := by rw [List.take_add_one, hi, Option.toList_some, List.foldl_append]; rfl
  obtain ⟨bL, oL, rfl⟩ := hhl.get (by omega)
  refine Sq.quiet (i := 0) rfl (Want.none rfl) rfl (ltN rfl) (QP.assign rfl rfl).read ?_
  refine Sq.nil ?_
  refine hk10 _ _ ?_
  refine Run.block ?_
  refine Run.loop3 (fun (j : Nat) (vo : Value) (O : List Entry) => j ≤ L.length ∧ OrdE ((L.take j).foldl (expK L x) ((L.take i).foldl (expR L) [])) O) (fun j vo O => .cons 0 (.slice (some ⟨bL, oL, none⟩) L.length cl) (.cons 3 (vo) (.cons 4 (.int .i64 i) (.cons 5 (.int .i64 j) (.nil))))) (fun j vo O => [slA 41 51 Entry.enc (.slice (some ⟨bL, oL, none⟩) L.length cl) L, slA 41 51 Entry.enc vo O]) (fun j vo O => L.length - j) (0) (vo) (O) (⟨Nat.zero_le _, hord⟩) ?_ ?_
  ·exact fun _ j => J.envJ (J.keep (.cons (by repeat constructor) (.cons (by repeat constructor) Takes.nil)) j) ⟨rfl, rfl, rfl, rfl, trivial⟩
  rintro j vo O ⟨hjle, hordj⟩ kl11 hl11
  refine Run.seq fun k12 hk12 => ?_
  refine Run.seq fun k13 hk13 => ?_
  refine Run.region ?_
  show Sq _ _ _ [0, 1, 2, 3] _ _ _ _
  refine Sq.quiet (i := 0) rfl (Want.none rfl) rfl (ltN rfl) (QP.move rfl rfl).read ?_
  refine Sq.quiet (i := 1) rfl (Want.none rfl) rfl (ltN rfl) (QP.move rfl rfl).read ?_
  refine Sq.quiet (i := 2) rfl (Want.none rfl) rfl (ltN rfl) (QP.len rfl rfl rfl Try.underlying22).read ?_
  refine Sq.quiet (i := 3) rfl (Want.none rfl) rfl (ltN rfl) (QP.lss rfl rfl rfl).read ?_
  refine J.caseD (fun c22 => ?_) (fun c22 => ?_)
  ·skip
   refine Sq.nil ?_
   refine hk13 _ _ ?_
   refine Run.cond_t rfl ?_
   refine Run.skip ?_
   refine hk12 _ _ ?_
   refine Run.seq fun k14 hk14 => ?_
   refine Run.block ?_
   refine Run.seq fun k15 hk15 => ?_
   refine Run.regionM (M := [0, 0, 3, 7, 15, 31, 0, 0, 192, 448, 960, 1984, 0, 0, 12351, 32767]) (q := 4095) (r := 2080) mixedT (by kernel_rfl) ?_
   obtain ⟨y, hj⟩ : ∃ y, L[j]? = some y := ⟨_, List.getElem?_eq_getElem (by omega)⟩
   have hsy : (L.take (j + 1)).foldl (expK L x) ((L.take i).foldl (expR L) []) = expK L x ((L.take j).foldl (expK L x) ((L.take i).foldl (expR L) [])) y := by rw [List.take_add_one, hj, Option.toList_some, List.foldl_append]; rfl
   refine Dw.pure (i := 0) rfl (by kernel_rfl) (Want.none rfl) rfl (ltN rfl) (QP.move rfl rfl) ?_
   refine Dw.pure (i := 1) rfl (by kernel_rfl) (Want.none rfl) rfl (ltN rfl) (QP.move rfl rfl) ?_
   refine Dw.pure (i := 2) rfl (by kernel_rfl) (Want.none rfl) rfl (ltN rfl) (QP.indexAddr rfl rfl rfl Try.underlying22 z41 (by first | omega | (simp <;> omega)) (by first | omega | (simp <;> omega))) ?_
   refine Dw.pure (i := 3) rfl (by kernel_rfl) (Want.none rfl) rfl (ltN rfl) (QP.fieldAddr rfl rfl f41_0) ?_
   refine Dw.pure (i := 4) rfl (by kernel_rfl) (Want.none rfl) rfl (ltN rfl) (QP.fieldAddr rfl rfl f39_0) ?_
   refine Dw.read (i := 5) rfl (by kernel_rfl) (Want.none rfl) rfl (ltN rfl) (QR.loadSlF rfl rfl g37 Entry.enc_len (SlAt.own Entry.enc_len (by repeat constructor)) hi ((Entry.sub_pair _).trans (Pair.sub_dst _))) ?_
   refine Dw.pure (i := 6) rfl (by kernel_rfl) (Want.none rfl) rfl (ltN rfl) (QP.move rfl rfl) ?_
   refine Dw.pure (i := 7) rfl (by kernel_rfl) (Want.none rfl) rfl (ltN rfl) (QP.move rfl rfl) ?_
   refine Dw.pure (i := 8) rfl (by kernel_rfl) (Want.none rfl) rfl (ltN rfl) (QP.indexAddr rfl rfl rfl Try.underlying22 z41 (by first | omega | (simp <;> omega)) (by first | omega | (simp <;> omega))) ?_
   refine Dw.pure (i := 9) rfl (by kernel_rfl) (Want.none rfl) rfl (ltN rfl) (QP.fieldAddr rfl rfl f41_0) ?_
   refine Dw.pure (i := 10) rfl (by kernel_rfl) (Want.none rfl) rfl (ltN rfl) (QP.fieldAddr rfl rfl f39_1) ?_
   refine Dw.read (i := 11) rfl (by kernel_rfl) (Want.none rfl) rfl (ltN rfl) (QR.loadSlF rfl rfl g37 Entry.enc_len (SlAt.own Entry.enc_len (by repeat constructor)) hj ((Entry.sub_pair _).trans (Pair.sub_src _))) ?_
   refine Dw.effs (l := [12, 13]) (by kernel_rfl) (by kernel_rfl) ?_
   rw [List.forall_mem_cons, List.forall_mem_cons]
   refine ⟨?_, ?_, fun _ h => (by cases h)⟩
   ·skip
    refine One.mk (o := _) (l := [11, 5]) rfl (by kernel_rfl) (Want.none rfl) rfl (ltN rfl) (EF.allocA (l := Prefix.enc Prefix.zero) rfl zero37) (by kernel_rfl) ?_
    rintro _ _ ⟨b6, rfl, rfl⟩
    refine ⟨?_, ?_⟩
    ·rw [List.forall_mem_cons, List.forall_mem_cons]
     refine ⟨?_, ?_, fun _ h => (by cases h)⟩
     ·exact Look.mk rfl rfl rfl (QR.loadSlF rfl rfl g37 Entry.enc_len (SlAt.own Entry.enc_len (by repeat constructor)) hj ((Entry.sub_pair _).trans (Pair.sub_src _)))
     ·exact Look.mk rfl rfl rfl (QR.loadSlF rfl rfl g37 Entry.enc_len (SlAt.own Entry.enc_len (by repeat constructor)) hi ((Entry.sub_pair _).trans (Pair.sub_dst _)))
    refine ?_
    refine Dw.eff (i := 13) (by kernel_rfl) (by kernel_rfl) ?_
    refine One.mk (o := _) (l := [11, 5]) rfl (by kernel_rfl) (Want.none rfl) rfl (ltN rfl) (EF.allocA (l := Prefix.enc Prefix.zero) rfl zero37) (by kernel_rfl) ?_
    rintro _ _ ⟨b7, rfl, rfl⟩
    refine ⟨?_, ?_⟩
    ·rw [List.forall_mem_cons, List.forall_mem_cons]
     refine ⟨?_, ?_, fun _ h => (by cases h)⟩
     ·exact Look.mk rfl rfl rfl (QR.loadSlF rfl rfl g37 Entry.enc_len (SlAt.own Entry.enc_len (by repeat constructor)) hj ((Entry.sub_pair _).trans (Pair.sub_src _)))
     ·exact Look.mk rfl rfl rfl (QR.loadSlF rfl rfl g37 Entry.enc_len (SlAt.own Entry.enc_len (by repeat constructor)) hi ((Entry.sub_pair _).trans (Pair.sub_dst _)))
    refine ?_
    refine Dw.eff (i := 14) (by kernel_rfl) (by kernel_rfl) ?_
    refine One.act (o := _) (l := [11]) rfl (by kernel_rfl) (Want.none rfl) rfl (EF.storeA rfl rfl rfl z37 (SetL.all (Prefix.enc_len _) (Prefix.enc_len _)) (Prefix.enc_cell _)) (by kernel_rfl) ?_
    rintro _ _ rfl
    refine ⟨?_, ?_⟩
    ·rw [List.forall_mem_cons]
     refine ⟨?_, fun _ h => (by cases h)⟩
     ·exact Look.mk rfl rfl rfl (QR.loadSlF rfl rfl g37 Entry.enc_len (SlAt.own Entry.enc_len (by repeat constructor)) hj ((Entry.sub_pair _).trans (Pair.sub_src _)))
    refine ?_
    refine Dw.eff (i := 15) (by kernel_rfl) (by kernel_rfl) ?_
    refine One.act (o := _) (l := []) rfl (by kernel_rfl) (Want.none rfl) rfl (EF.storeA rfl rfl rfl z37 (SetL.all (Prefix.enc_len _) (Prefix.enc_len _)) (Prefix.enc_cell _)) (by kernel_rfl) ?_
    rintro _ _ rfl
    refine ⟨fun _ h => (by cases h), ?_⟩
    refine Dw.nil (by kernel_rfl) ?_
    refine hk15 _ _ ?_
    refine Run.seq fun k16 hk16 => ?_
    refine Run.seq fun k17 hk17 => ?_
    refine Run.regionD (M := [0, 0, 3, 7, 15, 31, 0, 127, 255, 511, 1023, 2047, 1023, 8191, 16383, 32767]) (q := 55167) (r := 5216) (by kernel_rfl) ?_
    refine Dw.pure (i := 0) rfl (by kernel_rfl) (Want.none rfl) rfl (ltN rfl) (QP.move rfl rfl) ?_
    refine Dw.pure (i := 1) rfl (by kernel_rfl) (Want.none rfl) rfl (ltN rfl) (QP.move rfl rfl) ?_
    refine Dw.pure (i := 2) rfl (by kernel_rfl) (Want.none rfl) rfl (ltN rfl) (QP.indexAddr rfl rfl rfl Try.underlying22 z41 (by first | omega | (simp <;> omega)) (by first | omega | (simp <;> omega))) ?_
    refine Dw.pure (i := 3) rfl (by kernel_rfl) (Want.none rfl) rfl (ltN rfl) (QP.fieldAddr rfl rfl f41_0) ?_
    refine Dw.pure (i := 4) rfl (by kernel_rfl) (Want.none rfl) rfl (ltN rfl) (QP.fieldAddr rfl rfl f39_0) ?_
    refine Dw.read (i := 5) rfl (by kernel_rfl) (Want.none rfl) rfl (ltN rfl) (QR.loadSlF rfl rfl g37 Entry.enc_len (SlAt.own Entry.enc_len (by repeat constructor)) hj ((Entry.sub_pair _).trans (Pair.sub_dst _))) ?_
    refine Dw.read (i := 6) rfl (by kernel_rfl) (Want.none rfl) rfl (ltN rfl) (QR.load rfl rfl g37 (Prefix.enc_sub _)) ?_
    refine Dw.eff (i := 7) (by kernel_rfl) (by kernel_rfl) ?_
    refine One.mk (o := _) (l := []) rfl (by kernel_rfl) (Want.none rfl) rfl (ltN rfl) (EF.call rfl ce43 rfl Takes.nil (fun F' hle hr => rcovers_spec F' (((y).pair).dst) (((x).pair).dst))) (by kernel_rfl) ?_
    rintro _ _ ⟨_, ⟨rfl, rfl⟩, rfl⟩
    refine ⟨fun _ h => (by cases h), ?_⟩
    refine J.app ?_
    refine J.caseB (fun c44 => ?_) (fun c44 => ?_)
    ·skip
     refine Dw.pure (i := 8) rfl (by kernel_rfl) (Want.none rfl) rfl (ltN rfl) (QP.not rfl rfl) ?_
     refine Dw.pure (i := 9) rfl (by kernel_rfl) (Want.none rfl) rfl (ltN rfl) (QP.move rfl rfl) ?_
     refine Dw.read (i := 10) rfl (by kernel_rfl) (Want.yes rfl rfl rfl rfl) rfl (ltN rfl) (QR.load rfl rfl g37 (Prefix.enc_sub _)) ?_
     refine Dw.read (i := 12) rfl (by kernel_rfl) (Want.yes rfl rfl rfl rfl) rfl (ltN rfl) (QR.load rfl rfl g37 (Prefix.enc_sub _)) ?_
     refine Dw.eff (i := 11) (by kernel_rfl) (by kernel_rfl) ?_
     refine One.mk (o := _) (l := [12]) rfl (by kernel_rfl) (Want.yes rfl rfl rfl rfl) rfl (ltN rfl) (EF.call rfl ce44 rfl Takes.nil (fun F' hle hr => rfam_spec F' (((y).pair).src))) (by kernel_rfl) ?_
     rintro _ _ ⟨_, ⟨rfl, rfl⟩, rfl⟩
     refine ⟨?_, ?_⟩
     ·rw [List.forall_mem_cons]
      refine ⟨?_, fun _ h => (by cases h)⟩
      ·refine Look.app ?_
       exact Look.mk rfl rfl rfl (QR.load rfl rfl g37 (Prefix.enc_sub _))
     refine ?_
     refine J.app ?_
     refine Dw.eff (i := 13) (by kernel_rfl) (by kernel_rfl) ?_
     refine One.mk (o := _) (l := []) rfl (by kernel_rfl) (Want.yes rfl rfl rfl rfl) rfl (ltN rfl) (EF.call rfl ce44 rfl Takes.nil (fun F' hle hr => rfam_spec F' (((x).pair).dst))) (by kernel_rfl) ?_
     rintro _ _ ⟨_, ⟨rfl, rfl⟩, rfl⟩
     refine ⟨fun _ h => (by cases h), ?_⟩
     refine J.app ?_
     refine Dw.pure (i := 14) rfl (by kernel_rfl) (Want.yes rfl rfl rfl rfl) rfl (ltN rfl) (QP.neq rfl rfl rfl) ?_
     refine J.caseD (fun c51 => ?_) (fun c51 => ?_)
     ·skip
      refine Dw.pure (i := 15) rfl (by kernel_rfl) (Want.none rfl) rfl (ltN rfl) (QP.pick_f rfl rfl rfl) ?_
      refine Dw.nil (by kernel_rfl) ?_
      refine hk17 _ _ ?_
      refine Run.cond_t rfl ?_
      refine Run.exit rfl ?_
      refine hk14 _ _ ?_
      refine Run.region ?_
      show Sq _ _ _ [0, 1, 2] _ _ _ _
      refine Sq.quiet (i := 0) rfl (Want.none rfl) rfl (ltN rfl) (QP.move rfl rfl).read ?_
      refine Sq.quiet (i := 1) rfl (Want.none rfl) rfl (ltN rfl) (QP.add64 rfl rfl rfl (by first | omega | (simp <;> omega)) (by first | omega | (simp <;> omega))).read ?_
      refine Sq.quiet (i := 2) rfl (Want.none rfl) rfl (ltN rfl) (QP.assign rfl rfl).read ?_
      refine Sq.nil ?_
      exact J.envJ (J.keep (.cons (by repeat constructor) (.cons (by repeat constructor) Takes.nil)) (hl11 (j + 1) (vo) (_) (⟨by omega, by rw [hsy]; unfold expK; rw [if_neg fun h => ?_]; exact hordj; have := (expOk_iff hg (List.mem_of_getElem? hi) (List.mem_of_getElem? hj)).1 h; simp_all⟩) (by omega))) ⟨rfl, rfl, rfl, rfl, trivial⟩
     ·skip
      refine Dw.pure (i := 15) rfl (by kernel_rfl) (Want.none rfl) rfl (ltN rfl) (QP.pick_f rfl rfl rfl) ?_
      refine Dw.nil (by kernel_rfl) ?_
      refine hk17 _ _ ?_
      refine Run.cond_f rfl ?_
      refine Run.skip ?_
      refine hk16 _ _ ?_
      refine Run.seq fun k18 hk18 => ?_
      refine Run.region ?_
      show Sq _ _ _ [0] _ _ _ _
      have hok : expOk x y = true := (expOk_iff hg (List.mem_of_getElem? hi) (List.mem_of_getElem? hj)).2 ⟨by simp_all, by omega⟩
      have hmy := exp_means hg (List.mem_of_getElem? hi) (List.mem_of_getElem? hj) hok
      refine Sq.quiet (i := 0) rfl (Want.none rfl) rfl (ltN rfl) (QP.assign rfl rfl).read ?_
      refine Sq.nil ?_
      refine hk18 _ _ ?_
      refine Run.seq fun k19 hk19 => ?_
      refine Run.seq fun k20 hk20 => ?_
      refine Run.region ?_
      show Sq _ _ _ [0] _ _ _ _
      refine Sq.quiet (i := 0) rfl (Want.none rfl) rfl (ltN rfl) (QP.assign rfl rfl).read ?_
      refine Sq.nil ?_
      refine hk20 _ _ ?_
      refine Run.block ?_
      refine Run.loop2 (fun (k : Nat) (bi : Int) => k ≤ L.length ∧ BestAt L (expP x y) k bi) (fun k bi => .cons 0 (.slice (some ⟨bL, oL, none⟩) L.length cl) (.cons 3 (vo) (.cons 4 (.int .i64 i) (.cons 5 (.int .i64 j) (.cons 6 (.pointer (some ⟨b6, 0, none⟩)) (.cons 7 (.pointer (some ⟨b7, 0, none⟩)) (.cons 8 (.int .i64 bi) (.cons 9 (.int .i64 k) (.nil))))))))) (fun k bi => [slA 41 51 Entry.enc (.slice (some ⟨bL, oL, none⟩) L.length cl) L, slA 41 51 Entry.enc vo O, blk b6 (Prefix.enc x.pair.dst) 37, blk b7 (Prefix.enc y.pair.src) 37]) (fun k bi => L.length - k) (0) (-1) (⟨Nat.zero_le _, BestAt.zero _ _⟩) ?_ ?_
      ·exact fun _ j => J.envJ (J.keep (.cons (by repeat constructor) (.cons (by repeat constructor) (.cons (by repeat constructor) (.cons (by repeat constructor) Takes.nil)))) j) ⟨rfl, rfl, rfl, rfl, rfl, rfl, rfl, rfl, trivial⟩
      rintro k bi ⟨hkle, hba⟩ kl21 hl21
      refine Run.seq fun k22 hk22 => ?_
      refine Run.seq fun k23 hk23 => ?_
      refine Run.region ?_
      show Sq _ _ _ [0, 1, 2, 3] _ _ _ _
      refine Sq.quiet (i := 0) rfl (Want.none rfl) rfl (ltN rfl) (QP.move rfl rfl).read ?_
      refine Sq.quiet (i := 1) rfl (Want.none rfl) rfl (ltN rfl) (QP.move rfl rfl).read ?_
      refine Sq.quiet (i := 2) rfl (Want.none rfl) rfl (ltN rfl) (QP.len rfl rfl rfl Try.underlying22).read ?_
      refine Sq.quiet (i := 3) rfl (Want.none rfl) rfl (ltN rfl) (QP.lss rfl rfl rfl).read ?_
      refine J.caseD (fun c56 => ?_) (fun c56 => ?_)
      ·skip
       refine Sq.nil ?_
       refine hk23 _ _ ?_
       refine Run.cond_t rfl ?_
       refine Run.skip ?_
       refine hk22 _ _ ?_
       refine Run.seq fun k24 hk24 => ?_
       refine Run.block ?_
       refine Run.seq fun k25 hk25 => ?_
       refine Run.region ?_
       show Sq _ _ _ [0, 1, 2, 3, 4, 5, 6] _ _ _ _
       obtain ⟨z, hk⟩ : ∃ z, L[k]? = some z := ⟨_, List.getElem?_eq_getElem (by omega)⟩
       refine Sq.quiet (i := 0) rfl (Want.none rfl) rfl (ltN rfl) (QP.move rfl rfl).read ?_
       refine Sq.quiet (i := 1) rfl (Want.none rfl) rfl (ltN rfl) (QP.move rfl rfl).read ?_
       refine Sq.quiet (i := 2) rfl (Want.none rfl) rfl (ltN rfl) (QP.indexAddr rfl rfl rfl Try.underlying22 z41 (by first | omega | (simp <;> omega)) (by first | omega | (simp <;> omega))).read ?_
       refine Sq.quiet (i := 3) rfl (Want.none rfl) rfl (ltN rfl) (QP.fieldAddr rfl rfl f41_0).read ?_
       refine Sq.quiet (i := 4) rfl (Want.none rfl) rfl (ltN rfl) (QR.loadSlF rfl rfl g39 Entry.enc_len (SlAt.own Entry.enc_len (by repeat constructor)) hk (Entry.sub_pair _)) ?_
       refine Sq.eff (i := 5) rfl (Want.none rfl) rfl (ltN rfl) (EF.allocA (l := Pair.enc Pair.zero) rfl zero39) ?_
       rintro _ _ ⟨b10, rfl, rfl⟩
       refine Sq.act (i := 6) rfl (Want.none rfl) rfl (EF.storeA rfl rfl rfl z39 (SetL.all (Pair.enc_len _) (Pair.enc_len _)) (Pair.enc_cell _)) ?_
       rintro _ _ rfl
       refine Sq.nil ?_
       refine hk25 _ _ ?_
       refine Run.seq fun k26 hk26 => ?_
       refine Run.seq fun k27 hk27 => ?_
       refine Run.regionD (M := [0, 1, 0, 7, 15, 31, 63, 127, 63, 511, 1023, 2047, 4095, 8191, 16383, 32767, 8191, 131071, 262143, 524287]) (q := 884215) (r := 82310) (by kernel_rfl) ?_
       refine Dw.pure (i := 0) rfl (by kernel_rfl) (Want.none rfl) rfl (ltN rfl) (QP.fieldAddr rfl rfl f39_0) ?_
       refine Dw.read (i := 1) rfl (by kernel_rfl) (Want.none rfl) rfl (ltN rfl) (QR.load rfl rfl g37 (Pair.sub_dst _)) ?_
       refine Dw.read (i := 2) rfl (by kernel_rfl) (Want.none rfl) rfl (ltN rfl) (QR.load rfl rfl g37 (Prefix.enc_sub _)) ?_
       refine Dw.eff (i := 3) (by kernel_rfl) (by kernel_rfl) ?_
       refine One.mk (o := _) (l := []) rfl (by kernel_rfl) (Want.none rfl) rfl (ltN rfl) (EF.call rfl ce43 rfl Takes.nil (fun F' hle hr => rcovers_spec F' (((z).pair).dst) (x.pair.dst))) (by kernel_rfl) ?_
       rintro _ _ ⟨_, ⟨rfl, rfl⟩, rfl⟩
       refine ⟨fun _ h => (by cases h), ?_⟩
       refine J.app ?_
       refine J.caseB (fun c67 => ?_) (fun c67 => ?_)
       ·skip
        refine Dw.pure (i := 4) rfl (by kernel_rfl) (Want.none rfl) rfl (ltN rfl) (QP.not rfl rfl) ?_
        refine Dw.pure (i := 5) rfl (by kernel_rfl) (Want.none rfl) rfl (ltN rfl) (QP.move rfl rfl) ?_
        refine Dw.pure (i := 6) rfl (by kernel_rfl) (Want.yes rfl rfl rfl rfl) rfl (ltN rfl) (QP.fieldAddr rfl rfl f39_1) ?_
        refine Dw.read (i := 7) rfl (by kernel_rfl) (Want.yes rfl rfl rfl rfl) rfl (ltN rfl) (QR.load rfl rfl g37 (Pair.sub_src _)) ?_
        refine Dw.read (i := 8) rfl (by kernel_rfl) (Want.yes rfl rfl rfl rfl) rfl (ltN rfl) (QR.load rfl rfl g37 (Prefix.enc_sub _)) ?_
        refine Dw.eff (i := 9) (by kernel_rfl) (by kernel_rfl) ?_
        refine One.mk (o := _) (l := []) rfl (by kernel_rfl) (Want.yes rfl rfl rfl rfl) rfl (ltN rfl) (EF.call rfl ce43 rfl Takes.nil (fun F' hle hr => rcovers_spec F' (((z).pair).src) (y.pair.src))) (by kernel_rfl) ?_
        rintro _ _ ⟨_, ⟨rfl, rfl⟩, rfl⟩
        refine ⟨fun _ h => (by cases h), ?_⟩
        refine J.app ?_
        refine J.caseB (fun c73 => ?_) (fun c73 => ?_)
        ·skip
         refine Dw.pure (i := 10) rfl (by kernel_rfl) (Want.yes rfl rfl rfl rfl) rfl (ltN rfl) (QP.not rfl rfl) ?_
         refine Dw.pure (i := 11) rfl (by kernel_rfl) (Want.none rfl) rfl (ltN rfl) (QP.pick_f rfl rfl rfl) ?_
         refine Dw.pure (i := 12) rfl (by kernel_rfl) (Want.none rfl) rfl (ltN rfl) (QP.move rfl rfl) ?_
         refine Dw.pure (i := 13) rfl (by kernel_rfl) (Want.yes rfl rfl rfl rfl) rfl (ltN rfl) (QP.fieldAddr rfl rfl f39_0) ?_
         refine Dw.read (i := 14) rfl (by kernel_rfl) (Want.yes rfl rfl rfl rfl) rfl (ltN rfl) (QR.load rfl rfl g37 (Pair.sub_dst _)) ?_
         refine Dw.read (i := 16) rfl (by kernel_rfl) (Want.yes rfl rfl rfl rfl) rfl (ltN rfl) (QR.load rfl rfl g37 (Prefix.enc_sub _)) ?_
         refine Dw.eff (i := 15) (by kernel_rfl) (by kernel_rfl) ?_
         refine One.mk (o := _) (l := [16]) rfl (by kernel_rfl) (Want.yes rfl rfl rfl rfl) rfl (ltN rfl) (EF.call rfl ce44 rfl Takes.nil (fun F' hle hr => rfam_spec F' (((z).pair).dst))) (by kernel_rfl) ?_
         rintro _ _ ⟨_, ⟨rfl, rfl⟩, rfl⟩
         refine ⟨?_, ?_⟩
         ·rw [List.forall_mem_cons]
          refine ⟨?_, fun _ h => (by cases h)⟩
          ·refine Look.app ?_
           exact Look.mk rfl rfl rfl (QR.load rfl rfl g37 (Prefix.enc_sub _))
         refine ?_
         refine J.app ?_
         refine Dw.eff (i := 17) (by kernel_rfl) (by kernel_rfl) ?_
         refine One.mk (o := _) (l := []) rfl (by kernel_rfl) (Want.yes rfl rfl rfl rfl) rfl (ltN rfl) (EF.call rfl ce44 rfl Takes.nil (fun F' hle hr => rfam_spec F' (x.pair.dst))) (by kernel_rfl) ?_
         rintro _ _ ⟨_, ⟨rfl, rfl⟩, rfl⟩
         refine ⟨fun _ h => (by cases h), ?_⟩
         refine J.app ?_
         refine Dw.pure (i := 18) rfl (by kernel_rfl) (Want.yes rfl rfl rfl rfl) rfl (ltN rfl) (QP.neq rfl rfl rfl) ?_
         refine J.caseD (fun c82 => ?_) (fun c82 => ?_)
         ·skip
          refine Dw.pure (i := 19) rfl (by kernel_rfl) (Want.none rfl) rfl (ltN rfl) (QP.pick_f rfl rfl rfl) ?_
          refine Dw.nil (by kernel_rfl) ?_
          refine hk27 _ _ ?_
          refine Run.cond_t rfl ?_
          refine Run.exit rfl ?_
          refine hk24 _ _ ?_
          refine Run.region ?_
          show Sq _ _ _ [0, 1, 2] _ _ _ _
          refine Sq.quiet (i := 0) rfl (Want.none rfl) rfl (ltN rfl) (QP.move rfl rfl).read ?_
          refine Sq.quiet (i := 1) rfl (Want.none rfl) rfl (ltN rfl) (QP.add64 rfl rfl rfl (by first | omega | (simp <;> omega)) (by first | omega | (simp <;> omega))).read ?_
          refine Sq.quiet (i := 2) rfl (Want.none rfl) rfl (ltN rfl) (QP.assign rfl rfl).read ?_
          refine Sq.nil ?_
          exact J.envJ (J.keep (.cons (by repeat constructor) (.cons (by repeat constructor) (.cons (by repeat constructor) (.cons (by repeat constructor) Takes.nil)))) (hl21 (k + 1) (bi) (⟨by omega, hba.skip hk (Bool.eq_false_iff.2 fun h => by unfold meansB at h; simp only [Bool.and_eq_true, decide_eq_true_eq] at h; simp_all [expP])⟩) (by omega))) ⟨rfl, rfl, rfl, rfl, rfl, rfl, rfl, rfl, trivial⟩
         ·skip
          refine Dw.pure (i := 19) rfl (by kernel_rfl) (Want.none rfl) rfl (ltN rfl) (QP.pick_f rfl rfl rfl) ?_
          refine Dw.nil (by kernel_rfl) ?_
          refine hk27 _ _ ?_
          refine Run.cond_f rfl ?_
          refine Run.skip ?_
          refine hk26 _ _ ?_
          refine Run.seq fun k28 hk28 => ?_
          refine Run.regionD (M := [0, 1, 3, 7, 15, 31, 7, 7, 199, 455, 967, 1991, 4039, 8191, 16383, 32767, 65535, 131071, 262143, 65535, 65535, 1638399, 3735551, 7929855, 16318463, 33095679, 67108863, 134217727, 268435455, 536870911, 1073741823, 268435455, 268435455, 6710886399, 15300820991, 32480690175, 66840428543, 135559905279, 274877906943, 549755813887, 1099511627775]) (q := 2199023255551) (r := 138546516000) (by kernel_rfl) ?_
          refine Dw.pure (i := 0) rfl (by kernel_rfl) (Want.none rfl) rfl (ltN rfl) (QP.move rfl rfl) ?_
          refine Dw.pure (i := 1) rfl (by kernel_rfl) (Want.none rfl) rfl (ltN rfl) (QP.lss rfl rfl rfl) ?_
          refine J.caseD (fun c85 => ?_) (fun c85 => ?_)
          ·skip
           refine Dw.pure (i := 2) rfl (by kernel_rfl) (Want.none rfl) rfl (ltN rfl) (QP.move rfl rfl) ?_
           refine Dw.skip (i := 3) rfl (by kernel_rfl) (Want.no rfl rfl rfl rfl) rfl (ltN rfl) ?_
           refine Dw.skip (i := 4) rfl (by kernel_rfl) (Want.no rfl rfl rfl rfl) rfl (ltN rfl) ?_
           refine Dw.skip (i := 5) rfl (by kernel_rfl) (Want.no rfl rfl rfl rfl) rfl (ltN rfl) ?_
           refine Dw.skip (i := 6) rfl (by kernel_rfl) (Want.no rfl rfl rfl rfl) rfl (ltN rfl) ?_
           refine Dw.skip (i := 7) rfl (by kernel_rfl) (Want.no rfl rfl rfl rfl) rfl (ltN rfl) ?_
           refine Dw.skip (i := 8) rfl (by kernel_rfl) (Want.no rfl rfl rfl rfl) rfl (ltN rfl) ?_
           refine Dw.skip (i := 9) rfl (by kernel_rfl) (Want.no rfl rfl rfl rfl) rfl (ltN rfl) ?_
           refine Dw.skip (i := 10) rfl (by kernel_rfl) (Want.no rfl rfl rfl rfl) rfl (ltN rfl) ?_
           refine Dw.skip (i := 11) rfl (by kernel_rfl) (Want.no rfl rfl rfl rfl) rfl (ltN rfl) ?_
           refine Dw.skip (i := 12) rfl (by kernel_rfl) (Want.no rfl rfl rfl rfl) rfl (ltN rfl) ?_
           refine Dw.skip (i := 13) rfl (by kernel_rfl) (Want.no rfl rfl rfl rfl) rfl (ltN rfl) ?_
           refine Dw.pure (i := 14) rfl (by kernel_rfl) (Want.none rfl) rfl (ltN rfl) (QP.pick_t rfl rfl rfl) ?_
           refine Dw.pure (i := 15) rfl (by kernel_rfl) (Want.none rfl) rfl (ltN rfl) (QP.move rfl rfl) ?_
           refine Dw.skip (i := 16) rfl (by kernel_rfl) (Want.no rfl rfl rfl rfl) rfl (ltN rfl) ?_
           refine Dw.skip (i := 17) rfl (by kernel_rfl) (Want.no rfl rfl rfl rfl) rfl (ltN rfl) ?_
           refine Dw.skip (i := 18) rfl (by kernel_rfl) (Want.no rfl rfl rfl rfl) rfl (ltN rfl) ?_
           refine Dw.skip (i := 19) rfl (by kernel_rfl) (Want.no rfl rfl rfl rfl) rfl (ltN rfl) ?_
           refine Dw.skip (i := 20) rfl (by kernel_rfl) (Want.no rfl rfl rfl rfl) rfl (ltN rfl) ?_
           refine Dw.skip (i := 21) rfl (by kernel_rfl) (Want.no rfl rfl rfl rfl) rfl (ltN rfl) ?_
           refine Dw.skip (i := 22) rfl (by kernel_rfl) (Want.no rfl rfl rfl rfl) rfl (ltN rfl) ?_
           refine Dw.skip (i := 23) rfl (by kernel_rfl) (Want.no rfl rfl rfl rfl) rfl (ltN rfl) ?_
           refine Dw.skip (i := 24) rfl (by kernel_rfl) (Want.no rfl rfl rfl rfl) rfl (ltN rfl) ?_
           refine Dw.skip (i := 25) rfl (by kernel_rfl) (Want.no rfl rfl rfl rfl) rfl (ltN rfl) ?_
           refine Dw.skip (i := 26) rfl (by kernel_rfl) (Want.no rfl rfl rfl rfl) rfl (ltN rfl) ?_
           refine Dw.skip (i := 27) rfl (by kernel_rfl) (Want.no rfl rfl rfl rfl) rfl (ltN rfl) ?_
           refine Dw.skip (i := 28) rfl (by kernel_rfl) (Want.undef rfl rfl rfl) rfl (ltN rfl) ?_
           refine Dw.skip (i := 29) rfl (by kernel_rfl) (Want.undef rfl rfl rfl) rfl (ltN rfl) ?_
           refine Dw.skip (i := 30) rfl (by kernel_rfl) (Want.undef rfl rfl rfl) rfl (ltN rfl) ?_
           refine Dw.skip (i := 31) rfl (by kernel_rfl) (Want.undef rfl rfl rfl) rfl (ltN rfl) ?_
           refine Dw.skip (i := 32) rfl (by kernel_rfl) (Want.undef rfl rfl rfl) rfl (ltN rfl) ?_
           refine Dw.skip (i := 33) rfl (by kernel_rfl) (Want.undef rfl rfl rfl) rfl (ltN rfl) ?_
           refine Dw.skip (i := 34) rfl (by kernel_rfl) (Want.undef rfl rfl rfl) rfl (ltN rfl) ?_
           refine Dw.skip (i := 35) rfl (by kernel_rfl) (Want.undef rfl rfl rfl) rfl (ltN rfl) ?_
           refine Dw.skip (i := 36) rfl (by kernel_rfl) (Want.undef rfl rfl rfl) rfl (ltN rfl) ?_
           refine Dw.skip (i := 37) rfl (by kernel_rfl) (Want.undef rfl rfl rfl) rfl (ltN rfl) ?_
           refine Dw.skip (i := 38) rfl (by kernel_rfl) (Want.undef rfl rfl rfl) rfl (ltN rfl) ?_
           refine Dw.skip (i := 39) rfl (by kernel_rfl) (Want.no rfl rfl rfl rfl) rfl (ltN rfl) ?_
           refine Dw.pure (i := 40) rfl (by kernel_rfl) (Want.none rfl) rfl (ltN rfl) (QP.pick_t rfl rfl rfl) ?_
           refine Dw.nil (by kernel_rfl) ?_
           refine hk28 _ _ ?_
           refine Run.cond_t rfl ?_
           refine Run.region ?_
           show Sq _ _ _ [0, 1] _ _ _ _
           refine Sq.quiet (i := 0) rfl (Want.none rfl) rfl (ltN rfl) (QP.move rfl rfl).read ?_
           refine Sq.quiet (i := 1) rfl (Want.none rfl) rfl (ltN rfl) (QP.assign rfl rfl).read ?_
           refine Sq.nil ?_
           refine hk24 _ _ ?_
           refine Run.region ?_
           show Sq _ _ _ [0, 1, 2] _ _ _ _
           refine Sq.quiet (i := 0) rfl (Want.none rfl) rfl (ltN rfl) (QP.move rfl rfl).read ?_
           refine Sq.quiet (i := 1) rfl (Want.none rfl) rfl (ltN rfl) (QP.add64 rfl rfl rfl (by first | omega | (simp <;> omega)) (by first | omega | (simp <;> omega))).read ?_
           refine Sq.quiet (i := 2) rfl (Want.none rfl) rfl (ltN rfl) (QP.assign rfl rfl).read ?_
           refine Sq.nil ?_
           exact J.envJ (J.keep (.cons (by repeat constructor) (.cons (by repeat constructor) (.cons (by repeat constructor) (.cons (by repeat constructor) Takes.nil)))) (hl21 (k + 1) ((k : Int)) (⟨by omega, hba.take hk (by unfold meansB; simp_all [expP]) (.inl c85)⟩) (by omega))) ⟨rfl, rfl, rfl, rfl, rfl, rfl, rfl, rfl, trivial⟩
          ·skip
           refine Dw.pure (i := 2) rfl (by kernel_rfl) (Want.none rfl) rfl (ltN rfl) (QP.move rfl rfl) ?_
           refine Dw.pure (i := 3) rfl (by kernel_rfl) (Want.yes rfl rfl rfl rfl) rfl (ltN rfl) (QP.fieldAddr rfl rfl f39_0) ?_
           refine Dw.pure (i := 4) rfl (by kernel_rfl) (Want.yes rfl rfl rfl rfl) rfl (ltN rfl) (QP.fieldAddr rfl rfl f37_1) ?_
           refine Dw.read (i := 5) rfl (by kernel_rfl) (Want.yes rfl rfl rfl rfl) rfl (ltN rfl) (QR.load1 rfl rfl g3 ((Pair.sub_dst _).trans (Prefix.sub_len _))) ?_
           obtain ⟨bn, e, hbn, hbe, _⟩ : ∃ (b : Nat) (e : Entry), bi = b ∧ L[b]? = some e ∧ (L.take k).foldl (bstep (expP x y)) (Entry.zero, false) = (e, true) := by
             rcases hba with ⟨h1, _⟩ | h1
             · omega
             · exact h1
           have hbl := (List.getElem?_eq_some_iff.1 hbe).1
           subst hbn
           refine Dw.pure (i := 6) rfl (by kernel_rfl) (Want.yes rfl rfl rfl rfl) rfl (ltN rfl) (QP.move rfl rfl) ?_
           refine Dw.pure (i := 7) rfl (by kernel_rfl) (Want.yes rfl rfl rfl rfl) rfl (ltN rfl) (QP.move rfl rfl) ?_
           refine Dw.pure (i := 8) rfl (by kernel_rfl) (Want.yes rfl rfl rfl rfl) rfl (ltN rfl) (QP.indexAddr rfl rfl rfl Try.underlying22 z41 (by first | omega | (simp <;> omega)) (by first | omega | (simp <;> omega))) ?_
           refine Dw.pure (i := 9) rfl (by kernel_rfl) (Want.yes rfl rfl rfl rfl) rfl (ltN rfl) (QP.fieldAddr rfl rfl f41_0) ?_
           refine Dw.pure (i := 10) rfl (by kernel_rfl) (Want.yes rfl rfl rfl rfl) rfl (ltN rfl) (QP.fieldAddr rfl rfl f39_0) ?_
           refine Dw.pure (i := 11) rfl (by kernel_rfl) (Want.yes rfl rfl rfl rfl) rfl (ltN rfl) (QP.fieldAddr rfl rfl f37_1) ?_
           refine Dw.read (i := 12) rfl (by kernel_rfl) (Want.yes rfl rfl rfl rfl) rfl (ltN rfl) (QR.loadSlF1 rfl rfl g3 Entry.enc_len (SlAt.own Entry.enc_len (by repeat constructor)) hbe (((Entry.sub_pair _).trans (Pair.sub_dst _)).trans (Prefix.sub_len _))) ?_
           refine Dw.pure (i := 13) rfl (by kernel_rfl) (Want.yes rfl rfl rfl rfl) rfl (ltN rfl) (QP.gtr rfl rfl rfl) ?_
           refine J.caseD (fun c97 => ?_) (fun c97 => ?_)
           ·skip
            refine Dw.pure (i := 14) rfl (by kernel_rfl) (Want.none rfl) rfl (ltN rfl) (QP.pick_f rfl rfl rfl) ?_
            refine Dw.pure (i := 15) rfl (by kernel_rfl) (Want.none rfl) rfl (ltN rfl) (QP.move rfl rfl) ?_
            refine Dw.skip (i := 16) rfl (by kernel_rfl) (Want.no rfl rfl rfl rfl) rfl (ltN rfl) ?_
            refine Dw.skip (i := 17) rfl (by kernel_rfl) (Want.no rfl rfl rfl rfl) rfl (ltN rfl) ?_
            refine Dw.skip (i := 18) rfl (by kernel_rfl) (Want.no rfl rfl rfl rfl) rfl (ltN rfl) ?_
            refine Dw.skip (i := 19) rfl (by kernel_rfl) (Want.no rfl rfl rfl rfl) rfl (ltN rfl) ?_
            refine Dw.skip (i := 20) rfl (by kernel_rfl) (Want.no rfl rfl rfl rfl) rfl (ltN rfl) ?_
            refine Dw.skip (i := 21) rfl (by kernel_rfl) (Want.no rfl rfl rfl rfl) rfl (ltN rfl) ?_
            refine Dw.skip (i := 22) rfl (by kernel_rfl) (Want.no rfl rfl rfl rfl) rfl (ltN rfl) ?_
            refine Dw.skip (i := 23) rfl (by kernel_rfl) (Want.no rfl rfl rfl rfl) rfl (ltN rfl) ?_
            refine Dw.skip (i := 24) rfl (by kernel_rfl) (Want.no rfl rfl rfl rfl) rfl (ltN rfl) ?_
            refine Dw.skip (i := 25) rfl (by kernel_rfl) (Want.no rfl rfl rfl rfl) rfl (ltN rfl) ?_
            refine Dw.skip (i := 26) rfl (by kernel_rfl) (Want.no rfl rfl rfl rfl) rfl (ltN rfl) ?_
            refine Dw.skip (i := 27) rfl (by kernel_rfl) (Want.no rfl rfl rfl rfl) rfl (ltN rfl) ?_
            refine Dw.skip (i := 28) rfl (by kernel_rfl) (Want.undef rfl rfl rfl) rfl (ltN rfl) ?_
            refine Dw.skip (i := 29) rfl (by kernel_rfl) (Want.undef rfl rfl rfl) rfl (ltN rfl) ?_
            refine Dw.skip (i := 30) rfl (by kernel_rfl) (Want.undef rfl rfl rfl) rfl (ltN rfl) ?_
            refine Dw.skip (i := 31) rfl (by kernel_rfl) (Want.undef rfl rfl rfl) rfl (ltN rfl) ?_
            refine Dw.skip (i := 32) rfl (by kernel_rfl) (Want.undef rfl rfl rfl) rfl (ltN rfl) ?_
            refine Dw.skip (i := 33) rfl (by kernel_rfl) (Want.undef rfl rfl rfl) rfl (ltN rfl) ?_
            refine Dw.skip (i := 34) rfl (by kernel_rfl) (Want.undef rfl rfl rfl) rfl (ltN rfl) ?_
            refine Dw.skip (i := 35) rfl (by kernel_rfl) (Want.undef rfl rfl rfl) rfl (ltN rfl) ?_
            refine Dw.skip (i := 36) rfl (by kernel_rfl) (Want.undef rfl rfl rfl) rfl (ltN rfl) ?_
            refine Dw.skip (i := 37) rfl (by kernel_rfl) (Want.undef rfl rfl rfl) rfl (ltN rfl) ?_
            refine Dw.skip (i := 38) rfl (by kernel_rfl) (Want.undef rfl rfl rfl) rfl (ltN rfl) ?_
            refine Dw.skip (i := 39) rfl (by kernel_rfl) (Want.no rfl rfl rfl rfl) rfl (ltN rfl) ?_
            refine Dw.pure (i := 40) rfl (by kernel_rfl) (Want.none rfl) rfl (ltN rfl) (QP.pick_t rfl rfl rfl) ?_
            refine Dw.nil (by kernel_rfl) ?_
            refine hk28 _ _ ?_
            refine Run.cond_t rfl ?_
            refine Run.region ?_
            show Sq _ _ _ [0, 1] _ _ _ _
            refine Sq.quiet (i := 0) rfl (Want.none rfl) rfl (ltN rfl) (QP.move rfl rfl).read ?_
            refine Sq.quiet (i := 1) rfl (Want.none rfl) rfl (ltN rfl) (QP.assign rfl rfl).read ?_
            refine Sq.nil ?_
            refine hk24 _ _ ?_
            refine Run.region ?_
            show Sq _ _ _ [0, 1, 2] _ _ _ _
            refine Sq.quiet (i := 0) rfl (Want.none rfl) rfl (ltN rfl) (QP.move rfl rfl).read ?_
            refine Sq.quiet (i := 1) rfl (Want.none rfl) rfl (ltN rfl) (QP.add64 rfl rfl rfl (by first | omega | (simp <;> omega)) (by first | omega | (simp <;> omega))).read ?_
            refine Sq.quiet (i := 2) rfl (Want.none rfl) rfl (ltN rfl) (QP.assign rfl rfl).read ?_
            refine Sq.nil ?_
            exact J.envJ (J.keep (.cons (by repeat constructor) (.cons (by repeat constructor) (.cons (by repeat constructor) (.cons (by repeat constructor) Takes.nil)))) (hl21 (k + 1) ((k : Int)) (⟨by omega, hba.take hk (by unfold meansB; simp_all [expP]) (.inr ⟨bn, e, rfl, hbe, by unfold betterE; simp_all⟩)⟩) (by omega))) ⟨rfl, rfl, rfl, rfl, rfl, rfl, rfl, rfl, trivial⟩
           ·skip
            refine Dw.pure (i := 14) rfl (by kernel_rfl) (Want.none rfl) rfl (ltN rfl) (QP.pick_f rfl rfl rfl) ?_
            refine Dw.pure (i := 15) rfl (by kernel_rfl) (Want.none rfl) rfl (ltN rfl) (QP.move rfl rfl) ?_
            refine Dw.pure (i := 16) rfl (by kernel_rfl) (Want.yes rfl rfl rfl rfl) rfl (ltN rfl) (QP.fieldAddr rfl rfl f39_0) ?_
            refine Dw.pure (i := 17) rfl (by kernel_rfl) (Want.yes rfl rfl rfl rfl) rfl (ltN rfl) (QP.fieldAddr rfl rfl f37_1) ?_
            refine Dw.read (i := 18) rfl (by kernel_rfl) (Want.yes rfl rfl rfl rfl) rfl (ltN rfl) (QR.load1 rfl rfl g3 ((Pair.sub_dst _).trans (Prefix.sub_len _))) ?_
            refine Dw.pure (i := 19) rfl (by kernel_rfl) (Want.yes rfl rfl rfl rfl) rfl (ltN rfl) (QP.move rfl rfl) ?_
            refine Dw.pure (i := 20) rfl (by kernel_rfl) (Want.yes rfl rfl rfl rfl) rfl (ltN rfl) (QP.move rfl rfl) ?_
            refine Dw.pure (i := 21) rfl (by kernel_rfl) (Want.yes rfl rfl rfl rfl) rfl (ltN rfl) (QP.indexAddr rfl rfl rfl Try.underlying22 z41 (by first | omega | (simp <;> omega)) (by first | omega | (simp <;> omega))) ?_
            refine Dw.pure (i := 22) rfl (by kernel_rfl) (Want.yes rfl rfl rfl rfl) rfl (ltN rfl) (QP.fieldAddr rfl rfl f41_0) ?_
            refine Dw.pure (i := 23) rfl (by kernel_rfl) (Want.yes rfl rfl rfl rfl) rfl (ltN rfl) (QP.fieldAddr rfl rfl f39_0) ?_
            refine Dw.pure (i := 24) rfl (by kernel_rfl) (Want.yes rfl rfl rfl rfl) rfl (ltN rfl) (QP.fieldAddr rfl rfl f37_1) ?_
            refine Dw.read (i := 25) rfl (by kernel_rfl) (Want.yes rfl rfl rfl rfl) rfl (ltN rfl) (QR.loadSlF1 rfl rfl g3 Entry.enc_len (SlAt.own Entry.enc_len (by repeat constructor)) hbe (((Entry.sub_pair _).trans (Pair.sub_dst _)).trans (Prefix.sub_len _))) ?_
            refine Dw.pure (i := 26) rfl (by kernel_rfl) (Want.yes rfl rfl rfl rfl) rfl (ltN rfl) (QP.eql rfl rfl rfl) ?_
            refine J.caseD (fun c110 => ?_) (fun c110 => ?_)
            ·skip
             refine Dw.pure (i := 27) rfl (by kernel_rfl) (Want.yes rfl rfl rfl rfl) rfl (ltN rfl) (QP.move rfl rfl) ?_
             refine Dw.pure (i := 28) rfl (by kernel_rfl) (Want.yes rfl rfl rfl rfl) rfl (ltN rfl) (QP.fieldAddr rfl rfl f39_1) ?_
             refine Dw.pure (i := 29) rfl (by kernel_rfl) (Want.yes rfl rfl rfl rfl) rfl (ltN rfl) (QP.fieldAddr rfl rfl f37_1) ?_
             refine Dw.read (i := 30) rfl (by kernel_rfl) (Want.yes rfl rfl rfl rfl) rfl (ltN rfl) (QR.load1 rfl rfl g3 ((Pair.sub_src _).trans (Prefix.sub_len _))) ?_
             refine Dw.pure (i := 31) rfl (by kernel_rfl) (Want.yes rfl rfl rfl rfl) rfl (ltN rfl) (QP.move rfl rfl) ?_
             refine Dw.pure (i := 32) rfl (by kernel_rfl) (Want.yes rfl rfl rfl rfl) rfl (ltN rfl) (QP.move rfl rfl) ?_
             refine Dw.pure (i := 33) rfl (by kernel_rfl) (Want.yes rfl rfl rfl rfl) rfl (ltN rfl) (QP.indexAddr rfl rfl rfl Try.underlying22 z41 (by first | omega | (simp <;> omega)) (by first | omega | (simp <;> omega))) ?_
             refine Dw.pure (i := 34) rfl (by kernel_rfl) (Want.yes rfl rfl rfl rfl) rfl (ltN rfl) (QP.fieldAddr rfl rfl f41_0) ?_
             refine Dw.pure (i := 35) rfl (by kernel_rfl) (Want.yes rfl rfl rfl rfl) rfl (ltN rfl) (QP.fieldAddr rfl rfl f39_1) ?_
             refine Dw.pure (i := 36) rfl (by kernel_rfl) (Want.yes rfl rfl rfl rfl) rfl (ltN rfl) (QP.fieldAddr rfl rfl f37_1) ?_
             refine Dw.read (i := 37) rfl (by kernel_rfl) (Want.yes rfl rfl rfl rfl) rfl (ltN rfl) (QR.loadSlF1 rfl rfl g3 Entry.enc_len (SlAt.own Entry.enc_len (by repeat constructor)) hbe (((Entry.sub_pair _).trans (Pair.sub_src _)).trans (Prefix.sub_len _))) ?_
             refine Dw.pure (i := 38) rfl (by kernel_rfl) (Want.yes rfl rfl rfl rfl) rfl (ltN rfl) (QP.gtr rfl rfl rfl) ?_
             refine J.caseD (fun c122 => ?_) (fun c122 => ?_)
             ·skip
              refine Dw.pure (i := 39) rfl (by kernel_rfl) (Want.yes rfl rfl rfl rfl) rfl (ltN rfl) (QP.pick_t rfl rfl rfl) ?_
              refine Dw.pure (i := 40) rfl (by kernel_rfl) (Want.none rfl) rfl (ltN rfl) (QP.pick_f rfl rfl rfl) ?_
              refine Dw.nil (by kernel_rfl) ?_
              refine hk28 _ _ ?_
              refine Run.cond_t rfl ?_
              refine Run.region ?_
              show Sq _ _ _ [0, 1] _ _ _ _
              refine Sq.quiet (i := 0) rfl (Want.none rfl) rfl (ltN rfl) (QP.move rfl rfl).read ?_
              refine Sq.quiet (i := 1) rfl (Want.none rfl) rfl (ltN rfl) (QP.assign rfl rfl).read ?_
              refine Sq.nil ?_
              refine hk24 _ _ ?_
              refine Run.region ?_
              show Sq _ _ _ [0, 1, 2] _ _ _ _
              refine Sq.quiet (i := 0) rfl (Want.none rfl) rfl (ltN rfl) (QP.move rfl rfl).read ?_
              refine Sq.quiet (i := 1) rfl (Want.none rfl) rfl (ltN rfl) (QP.add64 rfl rfl rfl (by first | omega | (simp <;> omega)) (by first | omega | (simp <;> omega))).read ?_
              refine Sq.quiet (i := 2) rfl (Want.none rfl) rfl (ltN rfl) (QP.assign rfl rfl).read ?_
              refine Sq.nil ?_
              exact J.envJ (J.keep (.cons (by repeat constructor) (.cons (by repeat constructor) (.cons (by repeat constructor) (.cons (by repeat constructor) Takes.nil)))) (hl21 (k + 1) ((k : Int)) (⟨by omega, hba.take hk (by unfold meansB; simp_all [expP]) (.inr ⟨bn, e, rfl, hbe, by unfold betterE; simp_all⟩)⟩) (by omega))) ⟨rfl, rfl, rfl, rfl, rfl, rfl, rfl, rfl, trivial⟩
             ·skip
              refine Dw.pure (i := 39) rfl (by kernel_rfl) (Want.yes rfl rfl rfl rfl) rfl (ltN rfl) (QP.pick_t rfl rfl rfl) ?_
              refine Dw.pure (i := 40) rfl (by kernel_rfl) (Want.none rfl) rfl (ltN rfl) (QP.pick_f rfl rfl rfl) ?_
              refine Dw.nil (by kernel_rfl) ?_
              refine hk28 _ _ ?_
              refine Run.cond_f rfl ?_
              refine Run.skip ?_
              refine hk24 _ _ ?_
              refine Run.region ?_
              show Sq _ _ _ [0, 1, 2] _ _ _ _
              refine Sq.quiet (i := 0) rfl (Want.none rfl) rfl (ltN rfl) (QP.move rfl rfl).read ?_
              refine Sq.quiet (i := 1) rfl (Want.none rfl) rfl (ltN rfl) (QP.add64 rfl rfl rfl (by first | omega | (simp <;> omega)) (by first | omega | (simp <;> omega))).read ?_
              refine Sq.quiet (i := 2) rfl (Want.none rfl) rfl (ltN rfl) (QP.assign rfl rfl).read ?_
              refine Sq.nil ?_
              exact J.envJ (J.keep (.cons (by repeat constructor) (.cons (by repeat constructor) (.cons (by repeat constructor) (.cons (by repeat constructor) Takes.nil)))) (hl21 (k + 1) ((bn : Int)) (⟨by omega, hba.stay hk rfl hbe (by unfold betterE; simp_all)⟩) (by omega))) ⟨rfl, rfl, rfl, rfl, rfl, rfl, rfl, rfl, trivial⟩
            ·skip
             refine Dw.pure (i := 27) rfl (by kernel_rfl) (Want.yes rfl rfl rfl rfl) rfl (ltN rfl) (QP.move rfl rfl) ?_
             refine Dw.skip (i := 28) rfl (by kernel_rfl) (Want.no rfl rfl rfl rfl) rfl (ltN rfl) ?_
             refine Dw.skip (i := 29) rfl (by kernel_rfl) (Want.no rfl rfl rfl rfl) rfl (ltN rfl) ?_
             refine Dw.skip (i := 30) rfl (by kernel_rfl) (Want.no rfl rfl rfl rfl) rfl (ltN rfl) ?_
             refine Dw.skip (i := 31) rfl (by kernel_rfl) (Want.no rfl rfl rfl rfl) rfl (ltN rfl) ?_
             refine Dw.skip (i := 32) rfl (by kernel_rfl) (Want.no rfl rfl rfl rfl) rfl (ltN rfl) ?_
             refine Dw.skip (i := 33) rfl (by kernel_rfl) (Want.no rfl rfl rfl rfl) rfl (ltN rfl) ?_
             refine Dw.skip (i := 34) rfl (by kernel_rfl) (Want.no rfl rfl rfl rfl) rfl (ltN rfl) ?_
             refine Dw.skip (i := 35) rfl (by kernel_rfl) (Want.no rfl rfl rfl rfl) rfl (ltN rfl) ?_
             refine Dw.skip (i := 36) rfl (by kernel_rfl) (Want.no rfl rfl rfl rfl) rfl (ltN rfl) ?_
             refine Dw.skip (i := 37) rfl (by kernel_rfl) (Want.no rfl rfl rfl rfl) rfl (ltN rfl) ?_
             refine Dw.skip (i := 38) rfl (by kernel_rfl) (Want.no rfl rfl rfl rfl) rfl (ltN rfl) ?_
             refine Dw.pure (i := 39) rfl (by kernel_rfl) (Want.yes rfl rfl rfl rfl) rfl (ltN rfl) (QP.pick_f rfl rfl rfl) ?_
             refine Dw.pure (i := 40) rfl (by kernel_rfl) (Want.none rfl) rfl (ltN rfl) (QP.pick_f rfl rfl rfl) ?_
             refine Dw.nil (by kernel_rfl) ?_
             refine hk28 _ _ ?_
             refine Run.cond_f rfl ?_
             refine Run.skip ?_
             refine hk24 _ _ ?_
             refine Run.region ?_
             show Sq _ _ _ [0, 1, 2] _ _ _ _
             refine Sq.quiet (i := 0) rfl (Want.none rfl) rfl (ltN rfl) (QP.move rfl rfl).read ?_
             refine Sq.quiet (i := 1) rfl (Want.none rfl) rfl (ltN rfl) (QP.add64 rfl rfl rfl (by first | omega | (simp <;> omega)) (by first | omega | (simp <;> omega))).read ?_
             refine Sq.quiet (i := 2) rfl (Want.none rfl) rfl (ltN rfl) (QP.assign rfl rfl).read ?_
             refine Sq.nil ?_
             exact J.envJ (J.keep (.cons (by repeat constructor) (.cons (by repeat constructor) (.cons (by repeat constructor) (.cons (by repeat constructor) Takes.nil)))) (hl21 (k + 1) ((bn : Int)) (⟨by omega, hba.stay hk rfl hbe (by unfold betterE; simp_all)⟩) (by omega))) ⟨rfl, rfl, rfl, rfl, rfl, rfl, rfl, rfl, trivial⟩
        ·skip
         refine Dw.pure (i := 10) rfl (by kernel_rfl) (Want.yes rfl rfl rfl rfl) rfl (ltN rfl) (QP.not rfl rfl) ?_
         refine Dw.pure (i := 11) rfl (by kernel_rfl) (Want.none rfl) rfl (ltN rfl) (QP.pick_f rfl rfl rfl) ?_
         refine Dw.pure (i := 12) rfl (by kernel_rfl) (Want.none rfl) rfl (ltN rfl) (QP.move rfl rfl) ?_
         refine Dw.skip (i := 13) rfl (by kernel_rfl) (Want.no rfl rfl rfl rfl) rfl (ltN rfl) ?_
         refine Dw.skip (i := 14) rfl (by kernel_rfl) (Want.no rfl rfl rfl rfl) rfl (ltN rfl) ?_
         refine Dw.skip (i := 16) rfl (by kernel_rfl) (Want.no rfl rfl rfl rfl) rfl (ltN rfl) ?_
         refine Dw.eff (i := 15) (by kernel_rfl) (by kernel_rfl) ?_
         refine One.skipD (o := _) rfl (by kernel_rfl) (Want.no rfl rfl rfl rfl) rfl (ltN rfl) ?_
         refine Dw.eff (i := 17) (by kernel_rfl) (by kernel_rfl) ?_
         refine One.skipD (o := _) rfl (by kernel_rfl) (Want.no rfl rfl rfl rfl) rfl (ltN rfl) ?_
         refine Dw.skip (i := 18) rfl (by kernel_rfl) (Want.no rfl rfl rfl rfl) rfl (ltN rfl) ?_
         refine Dw.pure (i := 19) rfl (by kernel_rfl) (Want.none rfl) rfl (ltN rfl) (QP.pick_t rfl rfl rfl) ?_
         refine Dw.nil (by kernel_rfl) ?_
         refine hk27 _ _ ?_
         refine Run.cond_t rfl ?_
         refine Run.exit rfl ?_
         refine hk24 _ _ ?_
         refine Run.region ?_
         show Sq _ _ _ [0, 1, 2] _ _ _ _
         refine Sq.quiet (i := 0) rfl (Want.none rfl) rfl (ltN rfl) (QP.move rfl rfl).read ?_
         refine Sq.quiet (i := 1) rfl (Want.none rfl) rfl (ltN rfl) (QP.add64 rfl rfl rfl (by first | omega | (simp <;> omega)) (by first | omega | (simp <;> omega))).read ?_
         refine Sq.quiet (i := 2) rfl (Want.none rfl) rfl (ltN rfl) (QP.assign rfl rfl).read ?_
         refine Sq.nil ?_
         exact J.envJ (J.keep (.cons (by repeat constructor) (.cons (by repeat constructor) (.cons (by repeat constructor) (.cons (by repeat constructor) Takes.nil)))) (hl21 (k + 1) (bi) (⟨by omega, hba.skip hk (Bool.eq_false_iff.2 fun h => by unfold meansB at h; simp only [Bool.and_eq_true, decide_eq_true_eq] at h; simp_all [expP])⟩) (by omega))) ⟨rfl, rfl, rfl, rfl, rfl, rfl, rfl, rfl, trivial⟩
       ·skip
        refine Dw.pure (i := 4) rfl (by kernel_rfl) (Want.none rfl) rfl (ltN rfl) (QP.not rfl rfl) ?_
        refine Dw.pure (i := 5) rfl (by kernel_rfl) (Want.none rfl) rfl (ltN rfl) (QP.move rfl rfl) ?_
        refine Dw.skip (i := 6) rfl (by kernel_rfl) (Want.no rfl rfl rfl rfl) rfl (ltN rfl) ?_
        refine Dw.skip (i := 7) rfl (by kernel_rfl) (Want.no rfl rfl rfl rfl) rfl (ltN rfl) ?_
        refine Dw.skip (i := 8) rfl (by kernel_rfl) (Want.no rfl rfl rfl rfl) rfl (ltN rfl) ?_
        refine Dw.eff (i := 9) (by kernel_rfl) (by kernel_rfl) ?_
        refine One.skipD (o := _) rfl (by kernel_rfl) (Want.no rfl rfl rfl rfl) rfl (ltN rfl) ?_
        refine Dw.skip (i := 10) rfl (by kernel_rfl) (Want.no rfl rfl rfl rfl) rfl (ltN rfl) ?_
        refine Dw.pure (i := 11) rfl (by kernel_rfl) (Want.none rfl) rfl (ltN rfl) (QP.pick_t rfl rfl rfl) ?_
        refine Dw.pure (i := 12) rfl (by kernel_rfl) (Want.none rfl) rfl (ltN rfl) (QP.move rfl rfl) ?_
        refine Dw.skip (i := 13) rfl (by kernel_rfl) (Want.no rfl rfl rfl rfl) rfl (ltN rfl) ?_
        refine Dw.skip (i := 14) rfl (by kernel_rfl) (Want.no rfl rfl rfl rfl) rfl (ltN rfl) ?_
        refine Dw.skip (i := 16) rfl (by kernel_rfl) (Want.no rfl rfl rfl rfl) rfl (ltN rfl) ?_
        refine Dw.eff (i := 15) (by kernel_rfl) (by kernel_rfl) ?_
        refine One.skipD (o := _) rfl (by kernel_rfl) (Want.no rfl rfl rfl rfl) rfl (ltN rfl) ?_
        refine Dw.eff (i := 17) (by kernel_rfl) (by kernel_rfl) ?_
        refine One.skipD (o := _) rfl (by kernel_rfl) (Want.no rfl rfl rfl rfl) rfl (ltN rfl) ?_
        refine Dw.skip (i := 18) rfl (by kernel_rfl) (Want.no rfl rfl rfl rfl) rfl (ltN rfl) ?_
        refine Dw.pure (i := 19) rfl (by kernel_rfl) (Want.none rfl) rfl (ltN rfl) (QP.pick_t rfl rfl rfl) ?_
        refine Dw.nil (by kernel_rfl) ?_
        refine hk27 _ _ ?_
        refine Run.cond_t rfl ?_
        refine Run.exit rfl ?_
        refine hk24 _ _ ?_
        refine Run.region ?_
        show Sq _ _ _ [0, 1, 2] _ _ _ _
        refine Sq.quiet (i := 0) rfl (Want.none rfl) rfl (ltN rfl) (QP.move rfl rfl).read ?_
        refine Sq.quiet (i := 1) rfl (Want.none rfl) rfl (ltN rfl) (QP.add64 rfl rfl rfl (by first | omega | (simp <;> omega)) (by first | omega | (simp <;> omega))).read ?_
        refine Sq.quiet (i := 2) rfl (Want.none rfl) rfl (ltN rfl) (QP.assign rfl rfl).read ?_
        refine Sq.nil ?_
        exact J.envJ (J.keep (.cons (by repeat constructor) (.cons (by repeat constructor) (.cons (by repeat constructor) (.cons (by repeat constructor) Takes.nil)))) (hl21 (k + 1) (bi) (⟨by omega, hba.skip hk (Bool.eq_false_iff.2 fun h => by unfold meansB at h; simp only [Bool.and_eq_true, decide_eq_true_eq] at h; have := h.1; simp_all [expP])⟩) (by omega))) ⟨rfl, rfl, rfl, rfl, rfl, rfl, rfl, rfl, trivial⟩
      ·skip
       refine Sq.nil ?_
       refine hk23 _ _ ?_
       refine Run.cond_f rfl ?_
       refine Run.exit rfl ?_
       refine hk19 _ _ ?_
       refine Run.regionD (M := [0, 0, 0, 6, 0, 0, 48, 112, 240, 0, 0, 1536, 3584, 7680, 16382, 32767, 65535]) (q := 32767) (r := 8454) (by kernel_rfl) ?_
       rw [show k = L.length by omega] at hba
       obtain ⟨bn, e, hbn, hbe, hbst⟩ := hba.done (List.mem_of_getElem? hj) hmy
       have hbl := (List.getElem?_eq_some_iff.1 hbe).1
       subst hbn
       refine J.slCase (v := vo) (xs := O) (by repeat constructor) (fun av cv hvv hhv => ?_)
       subst hvv
       have hOl := hordj.length
       have e1 := expM_len L (L.take i) []
       have e2 := expR_len L x (L.take j) ((L.take i).foldl (expR L) [])
       have e3 : (L.take i).length * L.length ≤ 24 * 24 := Nat.mul_le_mul (by rw [List.length_take]; omega) hLn
       have e4 : (L.take j).length ≤ 24 := by rw [List.length_take]; omega
       simp only [List.length_nil] at e1
       refine Dw.pure (i := 0) rfl (by kernel_rfl) (Want.none rfl) rfl (ltN rfl) (QP.move rfl rfl) ?_
       refine Dw.read (i := 1) rfl (by kernel_rfl) (Want.none rfl) rfl (ltN rfl) (QR.load rfl rfl g37 (Prefix.enc_sub _)) ?_
       refine Dw.read (i := 2) rfl (by kernel_rfl) (Want.none rfl) rfl (ltN rfl) (QR.load rfl rfl g37 (Prefix.enc_sub _)) ?_
       refine Dw.pure (i := 3) rfl (by kernel_rfl) (Want.none rfl) rfl (ltN rfl) (QP.build (l := Pair.enc ⟨(x.pair.dst), (y.pair.src)⟩) rfl st39 rfl (by exact ⟨(congrArg some (Prefix.enc_len _).symm), ⟨(congrArg some (Prefix.enc_len _).symm), trivial⟩⟩) rfl) ?_
       refine Dw.pure (i := 4) rfl (by kernel_rfl) (Want.none rfl) rfl (ltN rfl) (QP.move rfl rfl) ?_
       refine Dw.pure (i := 5) rfl (by kernel_rfl) (Want.none rfl) rfl (ltN rfl) (QP.move rfl rfl) ?_
       refine Dw.pure (i := 6) rfl (by kernel_rfl) (Want.none rfl) rfl (ltN rfl) (QP.indexAddr rfl rfl rfl Try.underlying22 z41 (by first | omega | (simp <;> omega)) (by first | omega | (simp <;> omega))) ?_
       refine Dw.pure (i := 7) rfl (by kernel_rfl) (Want.none rfl) rfl (ltN rfl) (QP.fieldAddr rfl rfl f41_1) ?_
       refine Dw.read (i := 8) rfl (by kernel_rfl) (Want.none rfl) rfl (ltN rfl) (QR.loadSlF1 rfl rfl g3 Entry.enc_len (SlAt.own Entry.enc_len (by repeat constructor)) hbe (Entry.sub_if_ _)) ?_
       refine Dw.pure (i := 9) rfl (by kernel_rfl) (Want.none rfl) rfl (ltN rfl) (QP.move rfl rfl) ?_
       refine Dw.pure (i := 10) rfl (by kernel_rfl) (Want.none rfl) rfl (ltN rfl) (QP.move rfl rfl) ?_
       refine Dw.pure (i := 11) rfl (by kernel_rfl) (Want.none rfl) rfl (ltN rfl) (QP.indexAddr rfl rfl rfl Try.underlying22 z41 (by first | omega | (simp <;> omega)) (by first | omega | (simp <;> omega))) ?_
       refine Dw.pure (i := 12) rfl (by kernel_rfl) (Want.none rfl) rfl (ltN rfl) (QP.fieldAddr rfl rfl f41_2) ?_
       refine Dw.read (i := 13) rfl (by kernel_rfl) (Want.none rfl) rfl (ltN rfl) (QR.loadSlF rfl rfl g35 Entry.enc_len (SlAt.own Entry.enc_len (by repeat constructor)) hbe (Entry.sub_hop _)) ?_
       refine Dw.pure (i := 14) rfl (by kernel_rfl) (Want.none rfl) rfl (ltN rfl) (QP.build (l := Entry.enc ⟨((⟨(x.pair.dst), (y.pair.src)⟩ : Pair)), ((e).if_), ((e).hop)⟩) rfl st41 rfl (by exact ⟨(congrArg some (Pair.enc_len _).symm), ⟨rfl, ⟨(congrArg some (Bs.len _).symm), trivial⟩⟩⟩) rfl) ?_
       refine Dw.eff (i := 15) (by kernel_rfl) (by kernel_rfl) ?_
       refine One.mk (o := _) (l := []) rfl (by kernel_rfl) (Want.none rfl) rfl (ltN rfl) (EF.call rfl ce30 rfl (.cons (by repeat constructor) Takes.nil) (fun F' hle hr => put_spec F' hhv (by omega) hordj.sort _)) (by kernel_rfl) ?_
       rintro v141 _ ⟨_, ⟨L2, hput, rfl⟩, rfl⟩
       refine ⟨fun _ h => (by cases h), ?_⟩
       refine J.app ?_
       refine Dw.eff (i := 16) (by kernel_rfl) (by kernel_rfl) ?_
       refine One.mk (o := _) (l := []) rfl (by kernel_rfl) (Want.none rfl) rfl (ltN rfl) ((QP.assign rfl rfl).eff) (by kernel_rfl) ?_
       rintro v141 _ ⟨rfl, rfl⟩
       refine ⟨fun _ h => (by cases h), ?_⟩
       refine Dw.nil (by kernel_rfl) ?_
       refine hk14 _ _ ?_
       refine Run.region ?_
       show Sq _ _ _ [0, 1, 2] _ _ _ _
       refine Sq.quiet (i := 0) rfl (Want.none rfl) rfl (ltN rfl) (QP.move rfl rfl).read ?_
       refine Sq.quiet (i := 1) rfl (Want.none rfl) rfl (ltN rfl) (QP.add64 rfl rfl rfl (by first | omega | (simp <;> omega)) (by first | omega | (simp <;> omega))).read ?_
       refine Sq.quiet (i := 2) rfl (Want.none rfl) rfl (ltN rfl) (QP.assign rfl rfl).read ?_
       refine Sq.nil ?_
       exact J.envJ (J.keep (.cons (by repeat constructor) (.cons (by repeat constructor) Takes.nil)) (hl11 (j + 1) (v141) (_) (⟨by omega, by rw [hsy, expK_yes hok, show expE L x y = (⟨expP x y, e.if_, e.hop⟩ : Entry) by unfold expE; rw [hbst]]; exact hput.ord hordj⟩) (by omega))) ⟨rfl, rfl, rfl, rfl, trivial⟩
    ·skip
     refine Dw.pure (i := 8) rfl (by kernel_rfl) (Want.none rfl) rfl (ltN rfl) (QP.not rfl rfl) ?_
     refine Dw.pure (i := 9) rfl (by kernel_rfl) (Want.none rfl) rfl (ltN rfl) (QP.move rfl rfl) ?_
     refine Dw.skip (i := 10) rfl (by kernel_rfl) (Want.no rfl rfl rfl rfl) rfl (ltN rfl) ?_
     refine Dw.skip (i := 12) rfl (by kernel_rfl) (Want.no rfl rfl rfl rfl) rfl (ltN rfl) ?_
     refine Dw.eff (i := 11) (by kernel_rfl) (by kernel_rfl) ?_
     refine One.skipD (o := _) rfl (by kernel_rfl) (Want.no rfl rfl rfl rfl) rfl (ltN rfl) ?_
     refine Dw.eff (i := 13) (by kernel_rfl) (by kernel_rfl) ?_
     refine One.skipD (o := _) rfl (by kernel_rfl) (Want.no rfl rfl rfl rfl) rfl (ltN rfl) ?_
     refine Dw.skip (i := 14) rfl (by kernel_rfl) (Want.no rfl rfl rfl rfl) rfl (ltN rfl) ?_
     refine Dw.pure (i := 15) rfl (by kernel_rfl) (Want.none rfl) rfl (ltN rfl) (QP.pick_t rfl rfl rfl) ?_
     refine Dw.nil (by kernel_rfl) ?_
     refine hk17 _ _ ?_
     refine Run.cond_t rfl ?_
     refine Run.exit rfl ?_
     refine hk14 _ _ ?_
     refine Run.region ?_
     show Sq _ _ _ [0, 1, 2] _ _ _ _
     refine Sq.quiet (i := 0) rfl (Want.none rfl) rfl (ltN rfl) (QP.move rfl rfl).read ?_
     refine Sq.quiet (i := 1) rfl (Want.none rfl) rfl (ltN rfl) (QP.add64 rfl rfl rfl (by first | omega | (simp <;> omega)) (by first | omega | (simp <;> omega))).read ?_
     refine Sq.quiet (i := 2) rfl (Want.none rfl) rfl (ltN rfl) (QP.assign rfl rfl).read ?_
     refine Sq.nil ?_
     exact J.envJ (J.keep (.cons (by repeat constructor) (.cons (by repeat constructor) Takes.nil)) (hl11 (j + 1) (vo) (_) (⟨by omega, by rw [hsy]; unfold expK; rw [if_neg fun h => ?_]; exact hordj; have := (expOk_iff hg (List.mem_of_getElem? hi) (List.mem_of_getElem? hj)).1 h; simp_all⟩) (by omega))) ⟨rfl, rfl, rfl, rfl, trivial⟩
   ·skip
    refine One.mk (o := _) (l := [11, 5]) rfl (by kernel_rfl) (Want.none rfl) rfl (ltN rfl) (EF.allocA (l := Prefix.enc Prefix.zero) rfl zero37) (by kernel_rfl) ?_
    rintro _ _ ⟨b7, rfl, rfl⟩
    refine ⟨?_, ?_⟩
    ·rw [List.forall_mem_cons, List.forall_mem_cons]
     refine ⟨?_, ?_, fun _ h => (by cases h)⟩
     ·exact Look.mk rfl rfl rfl (QR.loadSlF rfl rfl g37 Entry.enc_len (SlAt.own Entry.enc_len (by repeat constructor)) hj ((Entry.sub_pair _).trans (Pair.sub_src _)))
     ·exact Look.mk rfl rfl rfl (QR.loadSlF rfl rfl g37 Entry.enc_len (SlAt.own Entry.enc_len (by repeat constructor)) hi ((Entry.sub_pair _).trans (Pair.sub_dst _)))
    refine ?_
    refine Dw.eff (i := 12) (by kernel_rfl) (by kernel_rfl) ?_
    refine One.mk (o := _) (l := [11, 5]) rfl (by kernel_rfl) (Want.none rfl) rfl (ltN rfl) (EF.allocA (l := Prefix.enc Prefix.zero) rfl zero37) (by kernel_rfl) ?_
    rintro _ _ ⟨b6, rfl, rfl⟩
    refine ⟨?_, ?_⟩
    ·rw [List.forall_mem_cons, List.forall_mem_cons]
     refine ⟨?_, ?_, fun _ h => (by cases h)⟩
     ·exact Look.mk rfl rfl rfl (QR.loadSlF rfl rfl g37 Entry.enc_len (SlAt.own Entry.enc_len (by repeat constructor)) hj ((Entry.sub_pair _).trans (Pair.sub_src _)))
     ·exact Look.mk rfl rfl rfl (QR.loadSlF rfl rfl g37 Entry.enc_len (SlAt.own Entry.enc_len (by repeat constructor)) hi ((Entry.sub_pair _).trans (Pair.sub_dst _)))
    refine ?_
    refine Dw.eff (i := 14) (by kernel_rfl) (by kernel_rfl) ?_
    refine One.act (o := _) (l := [11]) rfl (by kernel_rfl) (Want.none rfl) rfl (EF.storeA rfl rfl rfl z37 (SetL.all (Prefix.enc_len _) (Prefix.enc_len _)) (Prefix.enc_cell _)) (by kernel_rfl) ?_
    rintro _ _ rfl
    refine ⟨?_, ?_⟩
    ·rw [List.forall_mem_cons]
     refine ⟨?_, fun _ h => (by cases h)⟩
     ·exact Look.mk rfl rfl rfl (QR.loadSlF rfl rfl g37 Entry.enc_len (SlAt.own Entry.enc_len (by repeat constructor)) hj ((Entry.sub_pair _).trans (Pair.sub_src _)))
    refine ?_
    refine Dw.eff (i := 15) (by kernel_rfl) (by kernel_rfl) ?_
    refine One.act (o := _) (l := []) rfl (by kernel_rfl) (Want.none rfl) rfl (EF.storeA rfl rfl rfl z37 (SetL.all (Prefix.enc_len _) (Prefix.enc_len _)) (Prefix.enc_cell _)) (by kernel_rfl) ?_
    rintro _ _ rfl
    refine ⟨fun _ h => (by cases h), ?_⟩
    refine Dw.nil (by kernel_rfl) ?_
    refine hk15 _ _ ?_
    refine Run.seq fun k29 hk29 => ?_
    refine Run.seq fun k30 hk30 => ?_
    refine Run.regionD (M := [0, 0, 3, 7, 15, 31, 0, 127, 255, 511, 1023, 2047, 1023, 8191, 16383, 32767]) (q := 55167) (r := 5216) (by kernel_rfl) ?_
    refine Dw.pure (i := 0) rfl (by kernel_rfl) (Want.none rfl) rfl (ltN rfl) (QP.move rfl rfl) ?_
    refine Dw.pure (i := 1) rfl (by kernel_rfl) (Want.none rfl) rfl (ltN rfl) (QP.move rfl rfl) ?_
    refine Dw.pure (i := 2) rfl (by kernel_rfl) (Want.none rfl) rfl (ltN rfl) (QP.indexAddr rfl rfl rfl Try.underlying22 z41 (by first | omega | (simp <;> omega)) (by first | omega | (simp <;> omega))) ?_
    refine Dw.pure (i := 3) rfl (by kernel_rfl) (Want.none rfl) rfl (ltN rfl) (QP.fieldAddr rfl rfl f41_0) ?_
    refine Dw.pure (i := 4) rfl (by kernel_rfl) (Want.none rfl) rfl (ltN rfl) (QP.fieldAddr rfl rfl f39_0) ?_
    refine Dw.read (i := 5) rfl (by kernel_rfl) (Want.none rfl) rfl (ltN rfl) (QR.loadSlF rfl rfl g37 Entry.enc_len (SlAt.own Entry.enc_len (by repeat constructor)) hj ((Entry.sub_pair _).trans (Pair.sub_dst _))) ?_
    refine Dw.read (i := 6) rfl (by kernel_rfl) (Want.none rfl) rfl (ltN rfl) (QR.load rfl rfl g37 (Prefix.enc_sub _)) ?_
    refine Dw.eff (i := 7) (by kernel_rfl) (by kernel_rfl) ?_
    refine One.mk (o := _) (l := []) rfl (by kernel_rfl) (Want.none rfl) rfl (ltN rfl) (EF.call rfl ce43 rfl Takes.nil (fun F' hle hr => rcovers_spec F' (((y).pair).dst) (((x).pair).dst))) (by kernel_rfl) ?_
    rintro _ _ ⟨_, ⟨rfl, rfl⟩, rfl⟩
    refine ⟨fun _ h => (by cases h), ?_⟩
    refine J.app ?_
    refine J.caseB (fun c44 => ?_) (fun c44 => ?_)
    ·skip
     refine Dw.pure (i := 8) rfl (by kernel_rfl) (Want.none rfl) rfl (ltN rfl) (QP.not rfl rfl) ?_
     refine Dw.pure (i := 9) rfl (by kernel_rfl) (Want.none rfl) rfl (ltN rfl) (QP.move rfl rfl) ?_
     refine Dw.read (i := 10) rfl (by kernel_rfl) (Want.yes rfl rfl rfl rfl) rfl (ltN rfl) (QR.load rfl rfl g37 (Prefix.enc_sub _)) ?_
     refine Dw.read (i := 12) rfl (by kernel_rfl) (Want.yes rfl rfl rfl rfl) rfl (ltN rfl) (QR.load rfl rfl g37 (Prefix.enc_sub _)) ?_
     refine Dw.eff (i := 11) (by kernel_rfl) (by kernel_rfl) ?_
     refine One.mk (o := _) (l := [12]) rfl (by kernel_rfl) (Want.yes rfl rfl rfl rfl) rfl (ltN rfl) (EF.call rfl ce44 rfl Takes.nil (fun F' hle hr => rfam_spec F' (((y).pair).src))) (by kernel_rfl) ?_
     rintro _ _ ⟨_, ⟨rfl, rfl⟩, rfl⟩
     refine ⟨?_, ?_⟩
     ·rw [List.forall_mem_cons]
      refine ⟨?_, fun _ h => (by cases h)⟩
      ·refine Look.app ?_
       exact Look.mk rfl rfl rfl (QR.load rfl rfl g37 (Prefix.enc_sub _))
     refine ?_
     refine J.app ?_
     refine Dw.eff (i := 13) (by kernel_rfl) (by kernel_rfl) ?_
     refine One.mk (o := _) (l := []) rfl (by kernel_rfl) (Want.yes rfl rfl rfl rfl) rfl (ltN rfl) (EF.call rfl ce44 rfl Takes.nil (fun F' hle hr => rfam_spec F' (((x).pair).dst))) (by kernel_rfl) ?_
     rintro _ _ ⟨_, ⟨rfl, rfl⟩, rfl⟩
     refine ⟨fun _ h => (by cases h), ?_⟩
     refine J.app ?_
     refine Dw.pure (i := 14) rfl (by kernel_rfl) (Want.yes rfl rfl rfl rfl) rfl (ltN rfl) (QP.neq rfl rfl rfl) ?_
     refine J.caseD (fun c51 => ?_) (fun c51 => ?_)
     ·skip
      refine Dw.pure (i := 15) rfl (by kernel_rfl) (Want.none rfl) rfl (ltN rfl) (QP.pick_f rfl rfl rfl) ?_
      refine Dw.nil (by kernel_rfl) ?_
      refine hk30 _ _ ?_
      refine Run.cond_t rfl ?_
      refine Run.exit rfl ?_
      refine hk14 _ _ ?_
      refine Run.region ?_
      show Sq _ _ _ [0, 1, 2] _ _ _ _
      refine Sq.quiet (i := 0) rfl (Want.none rfl) rfl (ltN rfl) (QP.move rfl rfl).read ?_
      refine Sq.quiet (i := 1) rfl (Want.none rfl) rfl (ltN rfl) (QP.add64 rfl rfl rfl (by first | omega | (simp <;> omega)) (by first | omega | (simp <;> omega))).read ?_
      refine Sq.quiet (i := 2) rfl (Want.none rfl) rfl (ltN rfl) (QP.assign rfl rfl).read ?_
      refine Sq.nil ?_
      exact J.envJ (J.keep (.cons (by repeat constructor) (.cons (by repeat constructor) Takes.nil)) (hl11 (j + 1) (vo) (_) (⟨by omega, by rw [hsy]; unfold expK; rw [if_neg fun h => ?_]; exact hordj; have := (expOk_iff hg (List.mem_of_getElem? hi) (List.mem_of_getElem? hj)).1 h; simp_all⟩) (by omega))) ⟨rfl, rfl, rfl, rfl, trivial⟩
     ·skip
      refine Dw.pure (i := 15) rfl (by kernel_rfl) (Want.none rfl) rfl (ltN rfl) (QP.pick_f rfl rfl rfl) ?_
      refine Dw.nil (by kernel_rfl) ?_
      refine hk30 _ _ ?_
      refine Run.cond_f rfl ?_
      refine Run.skip ?_
      refine hk29 _ _ ?_
      refine Run.seq fun k31 hk31 => ?_
      refine Run.region ?_
      show Sq _ _ _ [0] _ _ _ _
      have hok : expOk x y = true := (expOk_iff hg (List.mem_of_getElem? hi) (List.mem_of_getElem? hj)).2 ⟨by simp_all, by omega⟩
      have hmy := exp_means hg (List.mem_of_getElem? hi) (List.mem_of_getElem? hj) hok
      refine Sq.quiet (i := 0) rfl (Want.none rfl) rfl (ltN rfl) (QP.assign rfl rfl).read ?_
      refine Sq.nil ?_
      refine hk31 _ _ ?_
      refine Run.seq fun k32 hk32 => ?_
      refine Run.seq fun k33 hk33 => ?_
      refine Run.region ?_
      show Sq _ _ _ [0] _ _ _ _
      refine Sq.quiet (i := 0) rfl (Want.none rfl) rfl (ltN rfl) (QP.assign rfl rfl).read ?_
      refine Sq.nil ?_
      refine hk33 _ _ ?_
      refine Run.block ?_
      refine Run.loop2 (fun (k : Nat) (bi : Int) => k ≤ L.length ∧ BestAt L (expP x y) k bi) (fun k bi => .cons 0 (.slice (some ⟨bL, oL, none⟩) L.length cl) (.cons 3 (vo) (.cons 4 (.int .i64 i) (.cons 5 (.int .i64 j) (.cons 6 (.pointer (some ⟨b6, 0, none⟩)) (.cons 7 (.pointer (some ⟨b7, 0, none⟩)) (.cons 8 (.int .i64 bi) (.cons 9 (.int .i64 k) (.nil))))))))) (fun k bi => [slA 41 51 Entry.enc (.slice (some ⟨bL, oL, none⟩) L.length cl) L, slA 41 51 Entry.enc vo O, blk b6 (Prefix.enc x.pair.dst) 37, blk b7 (Prefix.enc y.pair.src) 37]) (fun k bi => L.length - k) (0) (-1) (⟨Nat.zero_le _, BestAt.zero _ _⟩) ?_ ?_
      ·exact fun _ j => J.envJ (J.keep (.cons (by repeat constructor) (.cons (by repeat constructor) (.cons (by repeat constructor) (.cons (by repeat constructor) Takes.nil)))) j) ⟨rfl, rfl, rfl, rfl, rfl, rfl, rfl, rfl, trivial⟩
      rintro k bi ⟨hkle, hba⟩ kl34 hl34
      refine Run.seq fun k35 hk35 => ?_
      refine Run.seq fun k36 hk36 => ?_
      refine Run.region ?_
      show Sq _ _ _ [0, 1, 2, 3] _ _ _ _
      refine Sq.quiet (i := 0) rfl (Want.none rfl) rfl (ltN rfl) (QP.move rfl rfl).read ?_
      refine Sq.quiet (i := 1) rfl (Want.none rfl) rfl (ltN rfl) (QP.move rfl rfl).read ?_
      refine Sq.quiet (i := 2) rfl (Want.none rfl) rfl (ltN rfl) (QP.len rfl rfl rfl Try.underlying22).read ?_
      refine Sq.quiet (i := 3) rfl (Want.none rfl) rfl (ltN rfl) (QP.lss rfl rfl rfl).read ?_
      refine J.caseD (fun c56 => ?_) (fun c56 => ?_)
      ·skip
       refine Sq.nil ?_
       refine hk36 _ _ ?_
       refine Run.cond_t rfl ?_
       refine Run.skip ?_
       refine hk35 _ _ ?_
       refine Run.seq fun k37 hk37 => ?_
       refine Run.block ?_
       refine Run.seq fun k38 hk38 => ?_
       refine Run.region ?_
       show Sq _ _ _ [0, 1, 2, 3, 4, 5, 6] _ _ _ _
       obtain ⟨z, hk⟩ : ∃ z, L[k]? = some z := ⟨_, List.getElem?_eq_getElem (by omega)⟩
       refine Sq.quiet (i := 0) rfl (Want.none rfl) rfl (ltN rfl) (QP.move rfl rfl).read ?_
       refine Sq.quiet (i := 1) rfl (Want.none rfl) rfl (ltN rfl) (QP.move rfl rfl).read ?_
       refine Sq.quiet (i := 2) rfl (Want.none rfl) rfl (ltN rfl) (QP.indexAddr rfl rfl rfl Try.underlying22 z41 (by first | omega | (simp <;> omega)) (by first | omega | (simp <;> omega))).read ?_
       refine Sq.quiet (i := 3) rfl (Want.none rfl) rfl (ltN rfl) (QP.fieldAddr rfl rfl f41_0).read ?_
       refine Sq.quiet (i := 4) rfl (Want.none rfl) rfl (ltN rfl) (QR.loadSlF rfl rfl g39 Entry.enc_len (SlAt.own Entry.enc_len (by repeat constructor)) hk (Entry.sub_pair _)) ?_
       refine Sq.eff (i := 5) rfl (Want.none rfl) rfl (ltN rfl) (EF.allocA (l := Pair.enc Pair.zero) rfl zero39) ?_
       rintro _ _ ⟨b10, rfl, rfl⟩
       refine Sq.act (i := 6) rfl (Want.none rfl) rfl (EF.storeA rfl rfl rfl z39 (SetL.all (Pair.enc_len _) (Pair.enc_len _)) (Pair.enc_cell _)) ?_
       rintro _ _ rfl
       refine Sq.nil ?_
       refine hk38 _ _ ?_
       refine Run.seq fun k39 hk39 => ?_
       refine Run.seq fun k40 hk40 => ?_
       refine Run.regionD (M := [0, 1, 0, 7, 15, 31, 63, 127, 63, 511, 1023, 2047, 4095, 8191, 16383, 32767, 8191, 131071, 262143, 524287]) (q := 884215) (r := 82310) (by kernel_rfl) ?_
       refine Dw.pure (i := 0) rfl (by kernel_rfl) (Want.none rfl) rfl (ltN rfl) (QP.fieldAddr rfl rfl f39_0) ?_
       refine Dw.read (i := 1) rfl (by kernel_rfl) (Want.none rfl) rfl (ltN rfl) (QR.load rfl rfl g37 (Pair.sub_dst _)) ?_
       refine Dw.read (i := 2) rfl (by kernel_rfl) (Want.none rfl) rfl (ltN rfl) (QR.load rfl rfl g37 (Prefix.enc_sub _)) ?_
       refine Dw.eff (i := 3) (by kernel_rfl) (by kernel_rfl) ?_
       refine One.mk (o := _) (l := []) rfl (by kernel_rfl) (Want.none rfl) rfl (ltN rfl) (EF.call rfl ce43 rfl Takes.nil (fun F' hle hr => rcovers_spec F' (((z).pair).dst) (x.pair.dst))) (by kernel_rfl) ?_
       rintro _ _ ⟨_, ⟨rfl, rfl⟩, rfl⟩
       refine ⟨fun _ h => (by cases h), ?_⟩
       refine J.app ?_
       refine J.caseB (fun c67 => ?_) (fun c67 => ?_)
       ·skip
        refine Dw.pure (i := 4) rfl (by kernel_rfl) (Want.none rfl) rfl (ltN rfl) (QP.not rfl rfl) ?_
        refine Dw.pure (i := 5) rfl (by kernel_rfl) (Want.none rfl) rfl (ltN rfl) (QP.move rfl rfl) ?_
        refine Dw.pure (i := 6) rfl (by kernel_rfl) (Want.yes rfl rfl rfl rfl) rfl (ltN rfl) (QP.fieldAddr rfl rfl f39_1) ?_
        refine Dw.read (i := 7) rfl (by kernel_rfl) (Want.yes rfl rfl rfl rfl) rfl (ltN rfl) (QR.load rfl rfl g37 (Pair.sub_src _)) ?_
        refine Dw.read (i := 8) rfl (by kernel_rfl) (Want.yes rfl rfl rfl rfl) rfl (ltN rfl) (QR.load rfl rfl g37 (Prefix.enc_sub _)) ?_
        refine Dw.eff (i := 9) (by kernel_rfl) (by kernel_rfl) ?_
        refine One.mk (o := _) (l := []) rfl (by kernel_rfl) (Want.yes rfl rfl rfl rfl) rfl (ltN rfl) (EF.call rfl ce43 rfl Takes.nil (fun F' hle hr => rcovers_spec F' (((z).pair).src) (y.pair.src))) (by kernel_rfl) ?_
        rintro _ _ ⟨_, ⟨rfl, rfl⟩, rfl⟩
        refine ⟨fun _ h => (by cases h), ?_⟩
        refine J.app ?_
        refine J.caseB (fun c73 => ?_) (fun c73 => ?_)
        ·skip
         refine Dw.pure (i := 10) rfl (by kernel_rfl) (Want.yes rfl rfl rfl rfl) rfl (ltN rfl) (QP.not rfl rfl) ?_
         refine Dw.pure (i := 11) rfl (by kernel_rfl) (Want.none rfl) rfl (ltN rfl) (QP.pick_f rfl rfl rfl) ?_
         refine Dw.pure (i := 12) rfl (by kernel_rfl) (Want.none rfl) rfl (ltN rfl) (QP.move rfl rfl) ?_
         refine Dw.pure (i := 13) rfl (by kernel_rfl) (Want.yes rfl rfl rfl rfl) rfl (ltN rfl) (QP.fieldAddr rfl rfl f39_0) ?_
         refine Dw.read (i := 14) rfl (by kernel_rfl) (Want.yes rfl rfl rfl rfl) rfl (ltN rfl) (QR.load rfl rfl g37 (Pair.sub_dst _)) ?_
         refine Dw.read (i := 16) rfl (by kernel_rfl) (Want.yes rfl rfl rfl rfl) rfl (ltN rfl) (QR.load rfl rfl g37 (Prefix.enc_sub _)) ?_
         refine Dw.eff (i := 15) (by kernel_rfl) (by kernel_rfl) ?_
         refine One.mk (o := _) (l := [16]) rfl (by kernel_rfl) (Want.yes rfl rfl rfl rfl) rfl (ltN rfl) (EF.call rfl ce44 rfl Takes.nil (fun F' hle hr => rfam_spec F' (((z).pair).dst))) (by kernel_rfl) ?_
         rintro _ _ ⟨_, ⟨rfl, rfl⟩, rfl⟩
         refine ⟨?_, ?_⟩
         ·rw [List.forall_mem_cons]
          refine ⟨?_, fun _ h => (by cases h)⟩
          ·refine Look.app ?_
           exact Look.mk rfl rfl rfl (QR.load rfl rfl g37 (Prefix.enc_sub _))
         refine ?_
         refine J.app ?_
         refine Dw.eff (i := 17) (by kernel_rfl) (by kernel_rfl) ?_
         refine One.mk (o := _) (l := []) rfl (by kernel_rfl) (Want.yes rfl rfl rfl rfl) rfl (ltN rfl) (EF.call rfl ce44 rfl Takes.nil (fun F' hle hr => rfam_spec F' (x.pair.dst))) (by kernel_rfl) ?_
         rintro _ _ ⟨_, ⟨rfl, rfl⟩, rfl⟩
         refine ⟨fun _ h => (by cases h), ?_⟩
         refine J.app ?_
         refine Dw.pure (i := 18) rfl (by kernel_rfl) (Want.yes rfl rfl rfl rfl) rfl (ltN rfl) (QP.neq rfl rfl rfl) ?_
         refine J.caseD (fun c82 => ?_) (fun c82 => ?_)
         ·skip
          refine Dw.pure (i := 19) rfl (by kernel_rfl) (Want.none rfl) rfl (ltN rfl) (QP.pick_f rfl rfl rfl) ?_
          refine Dw.nil (by kernel_rfl) ?_
          refine hk40 _ _ ?_
          refine Run.cond_t rfl ?_
          refine Run.exit rfl ?_
          refine hk37 _ _ ?_
          refine Run.region ?_
          show Sq _ _ _ [0, 1, 2] _ _ _ _
          refine Sq.quiet (i := 0) rfl (Want.none rfl) rfl (ltN rfl) (QP.move rfl rfl).read ?_
          refine Sq.quiet (i := 1) rfl (Want.none rfl) rfl (ltN rfl) (QP.add64 rfl rfl rfl (by first | omega | (simp <;> omega)) (by first | omega | (simp <;> omega))).read ?_
          refine Sq.quiet (i := 2) rfl (Want.none rfl) rfl (ltN rfl) (QP.assign rfl rfl).read ?_
          refine Sq.nil ?_
          exact J.envJ (J.keep (.cons (by repeat constructor) (.cons (by repeat constructor) (.cons (by repeat constructor) (.cons (by repeat constructor) Takes.nil)))) (hl34 (k + 1) (bi) (⟨by omega, hba.skip hk (Bool.eq_false_iff.2 fun h => by unfold meansB at h; simp only [Bool.and_eq_true, decide_eq_true_eq] at h; simp_all [expP])⟩) (by omega))) ⟨rfl, rfl, rfl, rfl, rfl, rfl, rfl, rfl, trivial⟩
         ·skip
          refine Dw.pure (i := 19) rfl (by kernel_rfl) (Want.none rfl) rfl (ltN rfl) (QP.pick_f rfl rfl rfl) ?_
          refine Dw.nil (by kernel_rfl) ?_
          refine hk40 _ _ ?_
          refine Run.cond_f rfl ?_
          refine Run.skip ?_
          refine hk39 _ _ ?_
          refine Run.seq fun k41 hk41 => ?_
          refine Run.regionD (M := [0, 1, 3, 7, 15, 31, 7, 7, 199, 455, 967, 1991, 4039, 8191, 16383, 32767, 65535, 131071, 262143, 65535, 65535, 1638399, 3735551, 7929855, 16318463, 33095679, 67108863, 134217727, 268435455, 536870911, 1073741823, 268435455, 268435455, 6710886399, 15300820991, 32480690175, 66840428543, 135559905279, 274877906943, 549755813887, 1099511627775]) (q := 2199023255551) (r := 138546516000) (by kernel_rfl) ?_
          refine Dw.pure (i := 0) rfl (by kernel_rfl) (Want.none rfl) rfl (ltN rfl) (QP.move rfl rfl) ?_
          refine Dw.pure (i := 1) rfl (by kernel_rfl) (Want.none rfl) rfl (ltN rfl) (QP.lss rfl rfl rfl) ?_
          refine J.caseD (fun c85 => ?_) (fun c85 => ?_)
          ·skip
           refine Dw.pure (i := 2) rfl (by kernel_rfl) (Want.none rfl) rfl (ltN rfl) (QP.move rfl rfl) ?_
           refine Dw.skip (i := 3) rfl (by kernel_rfl) (Want.no rfl rfl rfl rfl) rfl (ltN rfl) ?_
           refine Dw.skip (i := 4) rfl (by kernel_rfl) (Want.no rfl rfl rfl rfl) rfl (ltN rfl) ?_
           refine Dw.skip (i := 5) rfl (by kernel_rfl) (Want.no rfl rfl rfl rfl) rfl (ltN rfl) ?_
           refine Dw.skip (i := 6) rfl (by kernel_rfl) (Want.no rfl rfl rfl rfl) rfl (ltN rfl) ?_
           refine Dw.skip (i := 7) rfl (by kernel_rfl) (Want.no rfl rfl rfl rfl) rfl (ltN rfl) ?_
           refine Dw.skip (i := 8) rfl (by kernel_rfl) (Want.no rfl rfl rfl rfl) rfl (ltN rfl) ?_
           refine Dw.skip (i := 9) rfl (by kernel_rfl) (Want.no rfl rfl rfl rfl) rfl (ltN rfl) ?_
           refine Dw.skip (i := 10) rfl (by kernel_rfl) (Want.no rfl rfl rfl rfl) rfl (ltN rfl) ?_
           refine Dw.skip (i := 11) rfl (by kernel_rfl) (Want.no rfl rfl rfl rfl) rfl (ltN rfl) ?_
           refine Dw.skip (i := 12) rfl (by kernel_rfl) (Want.no rfl rfl rfl rfl) rfl (ltN rfl) ?_
           refine Dw.skip (i := 13) rfl (by kernel_rfl) (Want.no rfl rfl rfl rfl) rfl (ltN rfl) ?_
           refine Dw.pure (i := 14) rfl (by kernel_rfl) (Want.none rfl) rfl (ltN rfl) (QP.pick_t rfl rfl rfl) ?_
           refine Dw.pure (i := 15) rfl (by kernel_rfl) (Want.none rfl) rfl (ltN rfl) (QP.move rfl rfl) ?_
           refine Dw.skip (i := 16) rfl (by kernel_rfl) (Want.no rfl rfl rfl rfl) rfl (ltN rfl) ?_
           refine Dw.skip (i := 17) rfl (by kernel_rfl) (Want.no rfl rfl rfl rfl) rfl (ltN rfl) ?_
           refine Dw.skip (i := 18) rfl (by kernel_rfl) (Want.no rfl rfl rfl rfl) rfl (ltN rfl) ?_
           refine Dw.skip (i := 19) rfl (by kernel_rfl) (Want.no rfl rfl rfl rfl) rfl (ltN rfl) ?_
           refine Dw.skip (i := 20) rfl (by kernel_rfl) (Want.no rfl rfl rfl rfl) rfl (ltN rfl) ?_
           refine Dw.skip (i := 21) rfl (by kernel_rfl) (Want.no rfl rfl rfl rfl) rfl (ltN rfl) ?_
           refine Dw.skip (i := 22) rfl (by kernel_rfl) (Want.no rfl rfl rfl rfl) rfl (ltN rfl) ?_
           refine Dw.skip (i := 23) rfl (by kernel_rfl) (Want.no rfl rfl rfl rfl) rfl (ltN rfl) ?_
           refine Dw.skip (i := 24) rfl (by kernel_rfl) (Want.no rfl rfl rfl rfl) rfl (ltN rfl) ?_
           refine Dw.skip (i := 25) rfl (by kernel_rfl) (Want.no rfl rfl rfl rfl) rfl (ltN rfl) ?_
           refine Dw.skip (i := 26) rfl (by kernel_rfl) (Want.no rfl rfl rfl rfl) rfl (ltN rfl) ?_
           refine Dw.skip (i := 27) rfl (by kernel_rfl) (Want.no rfl rfl rfl rfl) rfl (ltN rfl) ?_
           refine Dw.skip (i := 28) rfl (by kernel_rfl) (Want.undef rfl rfl rfl) rfl (ltN rfl) ?_
           refine Dw.skip (i := 29) rfl (by kernel_rfl) (Want.undef rfl rfl rfl) rfl (ltN rfl) ?_
           refine Dw.skip (i := 30) rfl (by kernel_rfl) (Want.undef rfl rfl rfl) rfl (ltN rfl) ?_
           refine Dw.skip (i := 31) rfl (by kernel_rfl) (Want.undef rfl rfl rfl) rfl (ltN rfl) ?_
           refine Dw.skip (i := 32) rfl (by kernel_rfl) (Want.undef rfl rfl rfl) rfl (ltN rfl) ?_
           refine Dw.skip (i := 33) rfl (by kernel_rfl) (Want.undef rfl rfl rfl) rfl (ltN rfl) ?_
           refine Dw.skip (i := 34) rfl (by kernel_rfl) (Want.undef rfl rfl rfl) rfl (ltN rfl) ?_
           refine Dw.skip (i := 35) rfl (by kernel_rfl) (Want.undef rfl rfl rfl) rfl (ltN rfl) ?_
           refine Dw.skip (i := 36) rfl (by kernel_rfl) (Want.undef rfl rfl rfl) rfl (ltN rfl) ?_
           refine Dw.skip (i := 37) rfl (by kernel_rfl) (Want.undef rfl rfl rfl) rfl (ltN rfl) ?_
           refine Dw.skip (i := 38) rfl (by kernel_rfl) (Want.undef rfl rfl rfl) rfl (ltN rfl) ?_
           refine Dw.skip (i := 39) rfl (by kernel_rfl) (Want.no rfl rfl rfl rfl) rfl (ltN rfl) ?_
           refine Dw.pure (i := 40) rfl (by kernel_rfl) (Want.none rfl) rfl (ltN rfl) (QP.pick_t rfl rfl rfl) ?_
           refine Dw.nil (by kernel_rfl) ?_
           refine hk41 _ _ ?_
           refine Run.cond_t rfl ?_
           refine Run.region ?_
           show Sq _ _ _ [0, 1] _ _ _ _
           refine Sq.quiet (i := 0) rfl (Want.none rfl) rfl (ltN rfl) (QP.move rfl rfl).read ?_
           refine Sq.quiet (i := 1) rfl (Want.none rfl) rfl (ltN rfl) (QP.assign rfl rfl).read ?_
           refine Sq.nil ?_
           refine hk37 _ _ ?_
           refine Run.region ?_
           show Sq _ _ _ [0, 1, 2] _ _ _ _
           refine Sq.quiet (i := 0) rfl (Want.none rfl) rfl (ltN rfl) (QP.move rfl rfl).read ?_
           refine Sq.quiet (i := 1) rfl (Want.none rfl) rfl (ltN rfl) (QP.add64 rfl rfl rfl (by first | omega | (simp <;> omega)) (by first | omega | (simp <;> omega))).read ?_
           refine Sq.quiet (i := 2) rfl (Want.none rfl) rfl (ltN rfl) (QP.assign rfl rfl).read ?_
           refine Sq.nil ?_
           exact J.envJ (J.keep (.cons (by repeat constructor) (.cons (by repeat constructor) (.cons (by repeat constructor) (.cons (by repeat constructor) Takes.nil)))) (hl34 (k + 1) ((k : Int)) (⟨by omega, hba.take hk (by unfold meansB; simp_all [expP]) (.inl c85)⟩) (by omega))) ⟨rfl, rfl, rfl, rfl, rfl, rfl, rfl, rfl, trivial⟩
          ·skip
           refine Dw.pure (i := 2) rfl (by kernel_rfl) (Want.none rfl) rfl (ltN rfl) (QP.move rfl rfl) ?_
           refine Dw.pure (i := 3) rfl (by kernel_rfl) (Want.yes rfl rfl rfl rfl) rfl (ltN rfl) (QP.fieldAddr rfl rfl f39_0) ?_
           refine Dw.pure (i := 4) rfl (by kernel_rfl) (Want.yes rfl rfl rfl rfl) rfl (ltN rfl) (QP.fieldAddr rfl rfl f37_1) ?_
           refine Dw.read (i := 5) rfl (by kernel_rfl) (Want.yes rfl rfl rfl rfl) rfl (ltN rfl) (QR.load1 rfl rfl g3 ((Pair.sub_dst _).trans (Prefix.sub_len _))) ?_
           obtain ⟨bn, e, hbn, hbe, _⟩ : ∃ (b : Nat) (e : Entry), bi = b ∧ L[b]? = some e ∧ (L.take k).foldl (bstep (expP x y)) (Entry.zero, false) = (e, true) := by
             rcases hba with ⟨h1, _⟩ | h1
             · omega
             · exact h1
           have hbl := (List.getElem?_eq_some_iff.1 hbe).1
           subst hbn
           refine Dw.pure (i := 6) rfl (by kernel_rfl) (Want.yes rfl rfl rfl rfl) rfl (ltN rfl) (QP.move rfl rfl) ?_
           refine Dw.pure (i := 7) rfl (by kernel_rfl) (Want.yes rfl rfl rfl rfl) rfl (ltN rfl) (QP.move rfl rfl) ?_
           refine Dw.pure (i := 8) rfl (by kernel_rfl) (Want.yes rfl rfl rfl rfl) rfl (ltN rfl) (QP.indexAddr rfl rfl rfl Try.underlying22 z41 (by first | omega | (simp <;> omega)) (by first | omega | (simp <;> omega))) ?_
           refine Dw.pure (i := 9) rfl (by kernel_rfl) (Want.yes rfl rfl rfl rfl) rfl (ltN rfl) (QP.fieldAddr rfl rfl f41_0) ?_
           refine Dw.pure (i := 10) rfl (by kernel_rfl) (Want.yes rfl rfl rfl rfl) rfl (ltN rfl) (QP.fieldAddr rfl rfl f39_0) ?_
           refine Dw.pure (i := 11) rfl (by kernel_rfl) (Want.yes rfl rfl rfl rfl) rfl (ltN rfl) (QP.fieldAddr rfl rfl f37_1) ?_
           refine Dw.read (i := 12) rfl (by kernel_rfl) (Want.yes rfl rfl rfl rfl) rfl (ltN rfl) (QR.loadSlF1 rfl rfl g3 Entry.enc_len (SlAt.own Entry.enc_len (by repeat constructor)) hbe (((Entry.sub_pair _).trans (Pair.sub_dst _)).trans (Prefix.sub_len _))) ?_
           refine Dw.pure (i := 13) rfl (by kernel_rfl) (Want.yes rfl rfl rfl rfl) rfl (ltN rfl) (QP.gtr rfl rfl rfl) ?_
           refine J.caseD (fun c97 => ?_) (fun c97 => ?_)
           ·skip
            refine Dw.pure (i := 14) rfl (by kernel_rfl) (Want.none rfl) rfl (ltN rfl) (QP.pick_f rfl rfl rfl) ?_
            refine Dw.pure (i := 15) rfl (by kernel_rfl) (Want.none rfl) rfl (ltN rfl) (QP.move rfl rfl) ?_
            refine Dw.skip (i := 16) rfl (by kernel_rfl) (Want.no rfl rfl rfl rfl) rfl (ltN rfl) ?_
            refine Dw.skip (i := 17) rfl (by kernel_rfl) (Want.no rfl rfl rfl rfl) rfl (ltN rfl) ?_
            refine Dw.skip (i := 18) rfl (by kernel_rfl) (Want.no rfl rfl rfl rfl) rfl (ltN rfl) ?_
            refine Dw.skip (i := 19) rfl (by kernel_rfl) (Want.no rfl rfl rfl rfl) rfl (ltN rfl) ?_
            refine Dw.skip (i := 20) rfl (by kernel_rfl) (Want.no rfl rfl rfl rfl) rfl (ltN rfl) ?_
            refine Dw.skip (i := 21) rfl (by kernel_rfl) (Want.no rfl rfl rfl rfl) rfl (ltN rfl) ?_
            refine Dw.skip (i := 22) rfl (by kernel_rfl) (Want.no rfl rfl rfl rfl) rfl (ltN rfl) ?_
            refine Dw.skip (i := 23) rfl (by kernel_rfl) (Want.no rfl rfl rfl rfl) rfl (ltN rfl) ?_
            refine Dw.skip (i := 24) rfl (by kernel_rfl) (Want.no rfl rfl rfl rfl) rfl (ltN rfl) ?_
            refine Dw.skip (i := 25) rfl (by kernel_rfl) (Want.no rfl rfl rfl rfl) rfl (ltN rfl) ?_
            refine Dw.skip (i := 26) rfl (by kernel_rfl) (Want.no rfl rfl rfl rfl) rfl (ltN rfl) ?_
            refine Dw.skip (i := 27) rfl (by kernel_rfl) (Want.no rfl rfl rfl rfl) rfl (ltN rfl) ?_
            refine Dw.skip (i := 28) rfl (by kernel_rfl) (Want.undef rfl rfl rfl) rfl (ltN rfl) ?_
            refine Dw.skip (i := 29) rfl (by kernel_rfl) (Want.undef rfl rfl rfl) rfl (ltN rfl) ?_
            refine Dw.skip (i := 30) rfl (by kernel_rfl) (Want.undef rfl rfl rfl) rfl (ltN rfl) ?_
            refine Dw.skip (i := 31) rfl (by kernel_rfl) (Want.undef rfl rfl rfl) rfl (ltN rfl) ?_
            refine Dw.skip (i := 32) rfl (by kernel_rfl) (Want.undef rfl rfl rfl) rfl (ltN rfl) ?_
            refine Dw.skip (i := 33) rfl (by kernel_rfl) (Want.undef rfl rfl rfl) rfl (ltN rfl) ?_
            refine Dw.skip (i := 34) rfl (by kernel_rfl) (Want.undef rfl rfl rfl) rfl (ltN rfl) ?_
            refine Dw.skip (i := 35) rfl (by kernel_rfl) (Want.undef rfl rfl rfl) rfl (ltN rfl) ?_
            refine Dw.skip (i := 36) rfl (by kernel_rfl) (Want.undef rfl rfl rfl) rfl (ltN rfl) ?_
            refine Dw.skip (i := 37) rfl (by kernel_rfl) (Want.undef rfl rfl rfl) rfl (ltN rfl) ?_
            refine Dw.skip (i := 38) rfl (by kernel_rfl) (Want.undef rfl rfl rfl) rfl (ltN rfl) ?_
            refine Dw.skip (i := 39) rfl (by kernel_rfl) (Want.no rfl rfl rfl rfl) rfl (ltN rfl) ?_
            refine Dw.pure (i := 40) rfl (by kernel_rfl) (Want.none rfl) rfl (ltN rfl) (QP.pick_t rfl rfl rfl) ?_
            refine Dw.nil (by kernel_rfl) ?_
            refine hk41 _ _ ?_
            refine Run.cond_t rfl ?_
            refine Run.region ?_
            show Sq _ _ _ [0, 1] _ _ _ _
            refine Sq.quiet (i := 0) rfl (Want.none rfl) rfl (ltN rfl) (QP.move rfl rfl).read ?_
            refine Sq.quiet (i := 1) rfl (Want.none rfl) rfl (ltN rfl) (QP.assign rfl rfl).read ?_
            refine Sq.nil ?_
            refine hk37 _ _ ?_
            refine Run.region ?_
            show Sq _ _ _ [0, 1, 2] _ _ _ _
            refine Sq.quiet (i := 0) rfl (Want.none rfl) rfl (ltN rfl) (QP.move rfl rfl).read ?_
            refine Sq.quiet (i := 1) rfl (Want.none rfl) rfl (ltN rfl) (QP.add64 rfl rfl rfl (by first | omega | (simp <;> omega)) (by first | omega | (simp <;> omega))).read ?_
            refine Sq.quiet (i := 2) rfl (Want.none rfl) rfl (ltN rfl) (QP.assign rfl rfl).read ?_
            refine Sq.nil ?_
            exact J.envJ (J.keep (.cons (by repeat constructor) (.cons (by repeat constructor) (.cons (by repeat constructor) (.cons (by repeat constructor) Takes.nil)))) (hl34 (k + 1) ((k : Int)) (⟨by omega, hba.take hk (by unfold meansB; simp_all [expP]) (.inr ⟨bn, e, rfl, hbe, by unfold betterE; simp_all⟩)⟩) (by omega))) ⟨rfl, rfl, rfl, rfl, rfl, rfl, rfl, rfl, trivial⟩
           ·skip
            refine Dw.pure (i := 14) rfl (by kernel_rfl) (Want.none rfl) rfl (ltN rfl) (QP.pick_f rfl rfl rfl) ?_
            refine Dw.pure (i := 15) rfl (by kernel_rfl) (Want.none rfl) rfl (ltN rfl) (QP.move rfl rfl) ?_
            refine Dw.pure (i := 16) rfl (by kernel_rfl) (Want.yes rfl rfl rfl rfl) rfl (ltN rfl) (QP.fieldAddr rfl rfl f39_0) ?_
            refine Dw.pure (i := 17) rfl (by kernel_rfl) (Want.yes rfl rfl rfl rfl) rfl (ltN rfl) (QP.fieldAddr rfl rfl f37_1) ?_
            refine Dw.read (i := 18) rfl (by kernel_rfl) (Want.yes rfl rfl rfl rfl) rfl (ltN rfl) (QR.load1 rfl rfl g3 ((Pair.sub_dst _).trans (Prefix.sub_len _))) ?_
            refine Dw.pure (i := 19) rfl (by kernel_rfl) (Want.yes rfl rfl rfl rfl) rfl (ltN rfl) (QP.move rfl rfl) ?_
            refine Dw.pure (i := 20) rfl (by kernel_rfl) (Want.yes rfl rfl rfl rfl) rfl (ltN rfl) (QP.move rfl rfl) ?_
            refine Dw.pure (i := 21) rfl (by kernel_rfl) (Want.yes rfl rfl rfl rfl) rfl (ltN rfl) (QP.indexAddr rfl rfl rfl Try.underlying22 z41 (by first | omega | (simp <;> omega)) (by first | omega | (simp <;> omega))) ?_
            refine Dw.pure (i := 22) rfl (by kernel_rfl) (Want.yes rfl rfl rfl rfl) rfl (ltN rfl) (QP.fieldAddr rfl rfl f41_0) ?_
            refine Dw.pure (i := 23) rfl (by kernel_rfl) (Want.yes rfl rfl rfl rfl) rfl (ltN rfl) (QP.fieldAddr rfl rfl f39_0) ?_
            refine Dw.pure (i := 24) rfl (by kernel_rfl) (Want.yes rfl rfl rfl rfl) rfl (ltN rfl) (QP.fieldAddr rfl rfl f37_1) ?_
            refine Dw.read (i := 25) rfl (by kernel_rfl) (Want.yes rfl rfl rfl rfl) rfl (ltN rfl) (QR.loadSlF1 rfl rfl g3 Entry.enc_len (SlAt.own Entry.enc_len (by repeat constructor)) hbe (((Entry.sub_pair _).trans (Pair.sub_dst _)).trans (Prefix.sub_len _))) ?_
            refine Dw.pure (i := 26) rfl (by kernel_rfl) (Want.yes rfl rfl rfl rfl) rfl (ltN rfl) (QP.eql rfl rfl rfl) ?_
            refine J.caseD (fun c110 => ?_) (fun c110 => ?_)
            ·skip
             refine Dw.pure (i := 27) rfl (by kernel_rfl) (Want.yes rfl rfl rfl rfl) rfl (ltN rfl) (QP.move rfl rfl) ?_
             refine Dw.pure (i := 28) rfl (by kernel_rfl) (Want.yes rfl rfl rfl rfl) rfl (ltN rfl) (QP.fieldAddr rfl rfl f39_1) ?_
             refine Dw.pure (i := 29) rfl (by kernel_rfl) (Want.yes rfl rfl rfl rfl) rfl (ltN rfl) (QP.fieldAddr rfl rfl f37_1) ?_
             refine Dw.read (i := 30) rfl (by kernel_rfl) (Want.yes rfl rfl rfl rfl) rfl (ltN rfl) (QR.load1 rfl rfl g3 ((Pair.sub_src _).trans (Prefix.sub_len _))) ?_
             refine Dw.pure (i := 31) rfl (by kernel_rfl) (Want.yes rfl rfl rfl rfl) rfl (ltN rfl) (QP.move rfl rfl) ?_
             refine Dw.pure (i := 32) rfl (by kernel_rfl) (Want.yes rfl rfl rfl rfl) rfl (ltN rfl) (QP.move rfl rfl) ?_
             refine Dw.pure (i := 33) rfl (by kernel_rfl) (Want.yes rfl rfl rfl rfl) rfl (ltN rfl) (QP.indexAddr rfl rfl rfl Try.underlying22 z41 (by first | omega | (simp <;> omega)) (by first | omega | (simp <;> omega))) ?_
             refine Dw.pure (i := 34) rfl (by kernel_rfl) (Want.yes rfl rfl rfl rfl) rfl (ltN rfl) (QP.fieldAddr rfl rfl f41_0) ?_
             refine Dw.pure (i := 35) rfl (by kernel_rfl) (Want.yes rfl rfl rfl rfl) rfl (ltN rfl) (QP.fieldAddr rfl rfl f39_1) ?_
             refine Dw.pure (i := 36) rfl (by kernel_rfl) (Want.yes rfl rfl rfl rfl) rfl (ltN rfl) (QP.fieldAddr rfl rfl f37_1) ?_
             refine Dw.read (i := 37) rfl (by kernel_rfl) (Want.yes rfl rfl rfl rfl) rfl (ltN rfl) (QR.loadSlF1 rfl rfl g3 Entry.enc_len (SlAt.own Entry.enc_len (by repeat constructor)) hbe (((Entry.sub_pair _).trans (Pair.sub_src _)).trans (Prefix.sub_len _))) ?_
             refine Dw.pure (i := 38) rfl (by kernel_rfl) (Want.yes rfl rfl rfl rfl) rfl (ltN rfl) (QP.gtr rfl rfl rfl) ?_
             refine J.caseD (fun c122 => ?_) (fun c122 => ?_)
             ·skip
              refine Dw.pure (i := 39) rfl (by kernel_rfl) (Want.yes rfl rfl rfl rfl) rfl (ltN rfl) (QP.pick_t rfl rfl rfl) ?_
              refine Dw.pure (i := 40) rfl (by kernel_rfl) (Want.none rfl) rfl (ltN rfl) (QP.pick_f rfl rfl rfl) ?_
              refine Dw.nil (by kernel_rfl) ?_
              refine hk41 _ _ ?_
              refine Run.cond_t rfl ?_
              refine Run.region ?_
              show Sq _ _ _ [0, 1] _ _ _ _
              refine Sq.quiet (i := 0) rfl (Want.none rfl) rfl (ltN rfl) (QP.move rfl rfl).read ?_
              refine Sq.quiet (i := 1) rfl (Want.none rfl) rfl (ltN rfl) (QP.assign rfl rfl).read ?_
              refine Sq.nil ?_
              refine hk37 _ _ ?_
              refine Run.region ?_
              show Sq _ _ _ [0, 1, 2] _ _ _ _
              refine Sq.quiet (i := 0) rfl (Want.none rfl) rfl (ltN rfl) (QP.move rfl rfl).read ?_
              refine Sq.quiet (i := 1) rfl (Want.none rfl) rfl (ltN rfl) (QP.add64 rfl rfl rfl (by first | omega | (simp <;> omega)) (by first | omega | (simp <;> omega))).read ?_
              refine Sq.quiet (i := 2) rfl (Want.none rfl) rfl (ltN rfl) (QP.assign rfl rfl).read ?_
              refine Sq.nil ?_
              exact J.envJ (J.keep (.cons (by repeat constructor) (.cons (by repeat constructor) (.cons (by repeat constructor) (.cons (by repeat constructor) Takes.nil)))) (hl34 (k + 1) ((k : Int)) (⟨by omega, hba.take hk (by unfold meansB; simp_all [expP]) (.inr ⟨bn, e, rfl, hbe, by unfold betterE; simp_all⟩)⟩) (by omega))) ⟨rfl, rfl, rfl, rfl, rfl, rfl, rfl, rfl, trivial⟩
             ·skip
              refine Dw.pure (i := 39) rfl (by kernel_rfl) (Want.yes rfl rfl rfl rfl) rfl (ltN rfl) (QP.pick_t rfl rfl rfl) ?_
              refine Dw.pure (i := 40) rfl (by kernel_rfl) (Want.none rfl) rfl (ltN rfl) (QP.pick_f rfl rfl rfl) ?_
              refine Dw.nil (by kernel_rfl) ?_
              refine hk41 _ _ ?_
              refine Run.cond_f rfl ?_
              refine Run.skip ?_
              refine hk37 _ _ ?_
              refine Run.region ?_
              show Sq _ _ _ [0, 1, 2] _ _ _ _
              refine Sq.quiet (i := 0) rfl (Want.none rfl) rfl (ltN rfl) (QP.move rfl rfl).read ?_
              refine Sq.quiet (i := 1) rfl (Want.none rfl) rfl (ltN rfl) (QP.add64 rfl rfl rfl (by first | omega | (simp <;> omega)) (by first | omega | (simp <;> omega))).read ?_
              refine Sq.quiet (i := 2) rfl (Want.none rfl) rfl (ltN rfl) (QP.assign rfl rfl).read ?_
              refine Sq.nil ?_
              exact J.envJ (J.keep (.cons (by repeat constructor) (.cons (by repeat constructor) (.cons (by repeat constructor) (.cons (by repeat constructor) Takes.nil)))) (hl34 (k + 1) ((bn : Int)) (⟨by omega, hba.stay hk rfl hbe (by unfold betterE; simp_all)⟩) (by omega))) ⟨rfl, rfl, rfl, rfl, rfl, rfl, rfl, rfl, trivial⟩
            ·skip
             refine Dw.pure (i := 27) rfl (by kernel_rfl) (Want.yes rfl rfl rfl rfl) rfl (ltN rfl) (QP.move rfl rfl) ?_
             refine Dw.skip (i := 28) rfl (by kernel_rfl) (Want.no rfl rfl rfl rfl) rfl (ltN rfl) ?_
             refine Dw.skip (i := 29) rfl (by kernel_rfl) (Want.no rfl rfl rfl rfl) rfl (ltN rfl) ?_
             refine Dw.skip (i := 30) rfl (by kernel_rfl) (Want.no rfl rfl rfl rfl) rfl (ltN rfl) ?_
             refine Dw.skip (i := 31) rfl (by kernel_rfl) (Want.no rfl rfl rfl rfl) rfl (ltN rfl) ?_
             refine Dw.skip (i := 32) rfl (by kernel_rfl) (Want.no rfl rfl rfl rfl) rfl (ltN rfl) ?_
             refine Dw.skip (i := 33) rfl (by kernel_rfl) (Want.no rfl rfl rfl rfl) rfl (ltN rfl) ?_
             refine Dw.skip (i := 34) rfl (by kernel_rfl) (Want.no rfl rfl rfl rfl) rfl (ltN rfl) ?_
             refine Dw.skip (i := 35) rfl (by kernel_rfl) (Want.no rfl rfl rfl rfl) rfl (ltN rfl) ?_
             refine Dw.skip (i := 36) rfl (by kernel_rfl) (Want.no rfl rfl rfl rfl) rfl (ltN rfl) ?_
             refine Dw.skip (i := 37) rfl (by kernel_rfl) (Want.no rfl rfl rfl rfl) rfl (ltN rfl) ?_
             refine Dw.skip (i := 38) rfl (by kernel_rfl) (Want.no rfl rfl rfl rfl) rfl (ltN rfl) ?_
             refine Dw.pure (i := 39) rfl (by kernel_rfl) (Want.yes rfl rfl rfl rfl) rfl (ltN rfl) (QP.pick_f rfl rfl rfl) ?_
             refine Dw.pure (i := 40) rfl (by kernel_rfl) (Want.none rfl) rfl (ltN rfl) (QP.pick_f rfl rfl rfl) ?_
             refine Dw.nil (by kernel_rfl) ?_
             refine hk41 _ _ ?_
             refine Run.cond_f rfl ?_
             refine Run.skip ?_
             refine hk37 _ _ ?_
             refine Run.region ?_
             show Sq _ _ _ [0, 1, 2] _ _ _ _
             refine Sq.quiet (i := 0) rfl (Want.none rfl) rfl (ltN rfl) (QP.move rfl rfl).read ?_
             refine Sq.quiet (i := 1) rfl (Want.none rfl) rfl (ltN rfl) (QP.add64 rfl rfl rfl (by first | omega | (simp <;> omega)) (by first | omega | (simp <;> omega))).read ?_
             refine Sq.quiet (i := 2) rfl (Want.none rfl) rfl (ltN rfl) (QP.assign rfl rfl).read ?_
             refine Sq.nil ?_
             exact J.envJ (J.keep (.cons (by repeat constructor) (.cons (by repeat constructor) (.cons (by repeat constructor) (.cons (by repeat constructor) Takes.nil)))) (hl34 (k + 1) ((bn : Int)) (⟨by omega, hba.stay hk rfl hbe (by unfold betterE; simp_all)⟩) (by omega))) ⟨rfl, rfl, rfl, rfl, rfl, rfl, rfl, rfl, trivial⟩
        ·skip
         refine Dw.pure (i := 10) rfl (by kernel_rfl) (Want.yes rfl rfl rfl rfl) rfl (ltN rfl) (QP.not rfl rfl) ?_
         refine Dw.pure (i := 11) rfl (by kernel_rfl) (Want.none rfl) rfl (ltN rfl) (QP.pick_f rfl rfl rfl) ?_
         refine Dw.pure (i := 12) rfl (by kernel_rfl) (Want.none rfl) rfl (ltN rfl) (QP.move rfl rfl) ?_
         refine Dw.skip (i := 13) rfl (by kernel_rfl) (Want.no rfl rfl rfl rfl) rfl (ltN rfl) ?_
         refine Dw.skip (i := 14) rfl (by kernel_rfl) (Want.no rfl rfl rfl rfl) rfl (ltN rfl) ?_
         refine Dw.skip (i := 16) rfl (by kernel_rfl) (Want.no rfl rfl rfl rfl) rfl (ltN rfl) ?_
         refine Dw.eff (i := 15) (by kernel_rfl) (by kernel_rfl) ?_
         refine One.skipD (o := _) rfl (by kernel_rfl) (Want.no rfl rfl rfl rfl) rfl (ltN rfl) ?_
         refine Dw.eff (i := 17) (by kernel_rfl) (by kernel_rfl) ?_
         refine One.skipD (o := _) rfl (by kernel_rfl) (Want.no rfl rfl rfl rfl) rfl (ltN rfl) ?_
         refine Dw.skip (i := 18) rfl (by kernel_rfl) (Want.no rfl rfl rfl rfl) rfl (ltN rfl) ?_
         refine Dw.pure (i := 19) rfl (by kernel_rfl) (Want.none rfl) rfl (ltN rfl) (QP.pick_t rfl rfl rfl) ?_
         refine Dw.nil (by kernel_rfl) ?_
         refine hk40 _ _ ?_
         refine Run.cond_t rfl ?_
         refine Run.exit rfl ?_
         refine hk37 _ _ ?_
         refine Run.region ?_
         show Sq _ _ _ [0, 1, 2] _ _ _ _
         refine Sq.quiet (i := 0) rfl (Want.none rfl) rfl (ltN rfl) (QP.move rfl rfl).read ?_
         refine Sq.quiet (i := 1) rfl (Want.none rfl) rfl (ltN rfl) (QP.add64 rfl rfl rfl (by first | omega | (simp <;> omega)) (by first | omega | (simp <;> omega))).read ?_
         refine Sq.quiet (i := 2) rfl (Want.none rfl) rfl (ltN rfl) (QP.assign rfl rfl).read ?_
         refine Sq.nil ?_
         exact J.envJ (J.keep (.cons (by repeat constructor) (.cons (by repeat constructor) (.cons (by repeat constructor) (.cons (by repeat constructor) Takes.nil)))) (hl34 (k + 1) (bi) (⟨by omega, hba.skip hk (Bool.eq_false_iff.2 fun h => by unfold meansB at h; simp only [Bool.and_eq_true, decide_eq_true_eq] at h; simp_all [expP])⟩) (by omega))) ⟨rfl, rfl, rfl, rfl, rfl, rfl, rfl, rfl, trivial⟩
       ·skip
        refine Dw.pure (i := 4) rfl (by kernel_rfl) (Want.none rfl) rfl (ltN rfl) (QP.not rfl rfl) ?_
        refine Dw.pure (i := 5) rfl (by kernel_rfl) (Want.none rfl) rfl (ltN rfl) (QP.move rfl rfl) ?_
        refine Dw.skip (i := 6) rfl (by kernel_rfl) (Want.no rfl rfl rfl rfl) rfl (ltN rfl) ?_
        refine Dw.skip (i := 7) rfl (by kernel_rfl) (Want.no rfl rfl rfl rfl) rfl (ltN rfl) ?_
        refine Dw.skip (i := 8) rfl (by kernel_rfl) (Want.no rfl rfl rfl rfl) rfl (ltN rfl) ?_
        refine Dw.eff (i := 9) (by kernel_rfl) (by kernel_rfl) ?_
        refine One.skipD (o := _) rfl (by kernel_rfl) (Want.no rfl rfl rfl rfl) rfl (ltN rfl) ?_
        refine Dw.skip (i := 10) rfl (by kernel_rfl) (Want.no rfl rfl rfl rfl) rfl (ltN rfl) ?_
        refine Dw.pure (i := 11) rfl (by kernel_rfl) (Want.none rfl) rfl (ltN rfl) (QP.pick_t rfl rfl rfl) ?_
        refine Dw.pure (i := 12) rfl (by kernel_rfl) (Want.none rfl) rfl (ltN rfl) (QP.move rfl rfl) ?_
        refine Dw.skip (i := 13) rfl (by kernel_rfl) (Want.no rfl rfl rfl rfl) rfl (ltN rfl) ?_
        refine Dw.skip (i := 14) rfl (by kernel_rfl) (Want.no rfl rfl rfl rfl) rfl (ltN rfl) ?_
        refine Dw.skip (i := 16) rfl (by kernel_rfl) (Want.no rfl rfl rfl rfl) rfl (ltN rfl) ?_
        refine Dw.eff (i := 15) (by kernel_rfl) (by kernel_rfl) ?_
        refine One.skipD (o := _) rfl (by kernel_rfl) (Want.no rfl rfl rfl rfl) rfl (ltN rfl) ?_
        refine Dw.eff (i := 17) (by kernel_rfl) (by kernel_rfl) ?_
        refine One.skipD (o := _) rfl (by kernel_rfl) (Want.no rfl rfl rfl rfl) rfl (ltN rfl) ?_
        refine Dw.skip (i := 18) rfl (by kernel_rfl) (Want.no rfl rfl rfl rfl) rfl (ltN rfl) ?_
        refine Dw.pure (i := 19) rfl (by kernel_rfl) (Want.none rfl) rfl (ltN rfl) (QP.pick_t rfl rfl rfl) ?_
        refine Dw.nil (by kernel_rfl) ?_
        refine hk40 _ _ ?_
        refine Run.cond_t rfl ?_
        refine Run.exit rfl ?_
        refine hk37 _ _ ?_
        refine Run.region ?_
        show Sq _ _ _ [0, 1, 2] _ _ _ _
        refine Sq.quiet (i := 0) rfl (Want.none rfl) rfl (ltN rfl) (QP.move rfl rfl).read ?_
        refine Sq.quiet (i := 1) rfl (Want.none rfl) rfl (ltN rfl) (QP.add64 rfl rfl rfl (by first | omega | (simp <;> omega)) (by first | omega | (simp <;> omega))).read ?_
        refine Sq.quiet (i := 2) rfl (Want.none rfl) rfl (ltN rfl) (QP.assign rfl rfl).read ?_
        refine Sq.nil ?_
        exact J.envJ (J.keep (.cons (by repeat constructor) (.cons (by repeat constructor) (.cons (by repeat constructor) (.cons (by repeat constructor) Takes.nil)))) (hl34 (k + 1) (bi) (⟨by omega, hba.skip hk (Bool.eq_false_iff.2 fun h => by unfold meansB at h; simp only [Bool.and_eq_true, decide_eq_true_eq] at h; have := h.1; simp_all [expP])⟩) (by omega))) ⟨rfl, rfl, rfl, rfl, rfl, rfl, rfl, rfl, trivial⟩
      ·skip
       refine Sq.nil ?_
       refine hk36 _ _ ?_
       refine Run.cond_f rfl ?_
       refine Run.exit rfl ?_
       refine hk32 _ _ ?_
       refine Run.regionD (M := [0, 0, 0, 6, 0, 0, 48, 112, 240, 0, 0, 1536, 3584, 7680, 16382, 32767, 65535]) (q := 32767) (r := 8454) (by kernel_rfl) ?_
       rw [show k = L.length by omega] at hba
       obtain ⟨bn, e, hbn, hbe, hbst⟩ := hba.done (List.mem_of_getElem? hj) hmy
       have hbl := (List.getElem?_eq_some_iff.1 hbe).1
       subst hbn
       refine J.slCase (v := vo) (xs := O) (by repeat constructor) (fun av cv hvv hhv => ?_)
       subst hvv
       have hOl := hordj.length
       have e1 := expM_len L (L.take i) []
       have e2 := expR_len L x (L.take j) ((L.take i).foldl (expR L) [])
       have e3 : (L.take i).length * L.length ≤ 24 * 24 := Nat.mul_le_mul (by rw [List.length_take]; omega) hLn
       have e4 : (L.take j).length ≤ 24 := by rw [List.length_take]; omega
       simp only [List.length_nil] at e1
       refine Dw.pure (i := 0) rfl (by kernel_rfl) (Want.none rfl) rfl (ltN rfl) (QP.move rfl rfl) ?_
       refine Dw.read (i := 1) rfl (by kernel_rfl) (Want.none rfl) rfl (ltN rfl) (QR.load rfl rfl g37 (Prefix.enc_sub _)) ?_
       refine Dw.read (i := 2) rfl (by kernel_rfl) (Want.none rfl) rfl (ltN rfl) (QR.load rfl rfl g37 (Prefix.enc_sub _)) ?_
       refine Dw.pure (i := 3) rfl (by kernel_rfl) (Want.none rfl) rfl (ltN rfl) (QP.build (l := Pair.enc ⟨(x.pair.dst), (y.pair.src)⟩) rfl st39 rfl (by exact ⟨(congrArg some (Prefix.enc_len _).symm), ⟨(congrArg some (Prefix.enc_len _).symm), trivial⟩⟩) rfl) ?_
       refine Dw.pure (i := 4) rfl (by kernel_rfl) (Want.none rfl) rfl (ltN rfl) (QP.move rfl rfl) ?_
       refine Dw.pure (i := 5) rfl (by kernel_rfl) (Want.none rfl) rfl (ltN rfl) (QP.move rfl rfl) ?_
       refine Dw.pure (i := 6) rfl (by kernel_rfl) (Want.none rfl) rfl (ltN rfl) (QP.indexAddr rfl rfl rfl Try.underlying22 z41 (by first | omega | (simp <;> omega)) (by first | omega | (simp <;> omega))) ?_
       refine Dw.pure (i := 7) rfl (by kernel_rfl) (Want.none rfl) rfl (ltN rfl) (QP.fieldAddr rfl rfl f41_1) ?_
       refine Dw.read (i := 8) rfl (by kernel_rfl) (Want.none rfl) rfl (ltN rfl) (QR.loadSlF1 rfl rfl g3 Entry.enc_len (SlAt.own Entry.enc_len (by repeat constructor)) hbe (Entry.sub_if_ _)) ?_
       refine Dw.pure (i := 9) rfl (by kernel_rfl) (Want.none rfl) rfl (ltN rfl) (QP.move rfl rfl) ?_
       refine Dw.pure (i := 10) rfl (by kernel_rfl) (Want.none rfl) rfl (ltN rfl) (QP.move rfl rfl) ?_
       refine Dw.pure (i := 11) rfl (by kernel_rfl) (Want.none rfl) rfl (ltN rfl) (QP.indexAddr rfl rfl rfl Try.underlying22 z41 (by first | omega | (simp <;> omega)) (by first | omega | (simp <;> omega))) ?_
       refine Dw.pure (i := 12) rfl (by kernel_rfl) (Want.none rfl) rfl (ltN rfl) (QP.fieldAddr rfl rfl f41_2) ?_
       refine Dw.read (i := 13) rfl (by kernel_rfl) (Want.none rfl) rfl (ltN rfl) (QR.loadSlF rfl rfl g35 Entry.enc_len (SlAt.own Entry.enc_len (by repeat constructor)) hbe (Entry.sub_hop _)) ?_
       refine Dw.pure (i := 14) rfl (by kernel_rfl) (Want.none rfl) rfl (ltN rfl) (QP.build (l := Entry.enc ⟨((⟨(x.pair.dst), (y.pair.src)⟩ : Pair)), ((e).if_), ((e).hop)⟩) rfl st41 rfl (by exact ⟨(congrArg some (Pair.enc_len _).symm), ⟨rfl, ⟨(congrArg some (Bs.len _).symm), trivial⟩⟩⟩) rfl) ?_
       refine Dw.eff (i := 15) (by kernel_rfl) (by kernel_rfl) ?_
       refine One.mk (o := _) (l := []) rfl (by kernel_rfl) (Want.none rfl) rfl (ltN rfl) (EF.call rfl ce30 rfl (.cons (by repeat constructor) Takes.nil) (fun F' hle hr => put_spec F' hhv (by omega) hordj.sort _)) (by kernel_rfl) ?_
       rintro v141 _ ⟨_, ⟨L2, hput, rfl⟩, rfl⟩
       refine ⟨fun _ h => (by cases h), ?_⟩
       refine J.app ?_
       refine Dw.eff (i := 16) (by kernel_rfl) (by kernel_rfl) ?_
       refine One.mk (o := _) (l := []) rfl (by kernel_rfl) (Want.none rfl) rfl (ltN rfl) ((QP.assign rfl rfl).eff) (by kernel_rfl) ?_
       rintro v141 _ ⟨rfl, rfl⟩
       refine ⟨fun _ h => (by cases h), ?_⟩
       refine Dw.nil (by kernel_rfl) ?_
       refine hk14 _ _ ?_
       refine Run.region ?_
       show Sq _ _ _ [0, 1, 2] _ _ _ _
       refine Sq.quiet (i := 0) rfl (Want.none rfl) rfl (ltN rfl) (QP.move rfl rfl).read ?_
       refine Sq.quiet (i := 1) rfl (Want.none rfl) rfl (ltN rfl) (QP.add64 rfl rfl rfl (by first | omega | (simp <;> omega)) (by first | omega | (simp <;> omega))).read ?_
       refine Sq.quiet (i := 2) rfl (Want.none rfl) rfl (ltN rfl) (QP.assign rfl rfl).read ?_
       refine Sq.nil ?_
       exact J.envJ (J.keep (.cons (by repeat constructor) (.cons (by repeat constructor) Takes.nil)) (hl11 (j + 1) (v141) (_) (⟨by omega, by rw [hsy, expK_yes hok, show expE L x y = (⟨expP x y, e.if_, e.hop⟩ : Entry) by unfold expE; rw [hbst]]; exact hput.ord hordj⟩) (by omega))) ⟨rfl, rfl, rfl, rfl, trivial⟩
    ·skip
     refine Dw.pure (i := 8) rfl (by kernel_rfl) (Want.none rfl) rfl (ltN rfl) (QP.not rfl rfl) ?_
     refine Dw.pure (i := 9) rfl (by kernel_rfl) (Want.none rfl) rfl (ltN rfl) (QP.move rfl rfl) ?_
     refine Dw.skip (i := 10) rfl (by kernel_rfl) (Want.no rfl rfl rfl rfl) rfl (ltN rfl) ?_
     refine Dw.skip (i := 12) rfl (by kernel_rfl) (Want.no rfl rfl rfl rfl) rfl (ltN rfl) ?_
     refine Dw.eff (i := 11) (by kernel_rfl) (by kernel_rfl) ?_
     refine One.skipD (o := _) rfl (by kernel_rfl) (Want.no rfl rfl rfl rfl) rfl (ltN rfl) ?_
     refine Dw.eff (i := 13) (by kernel_rfl) (by kernel_rfl) ?_
     refine One.skipD (o := _) rfl (by kernel_rfl) (Want.no rfl rfl rfl rfl) rfl (ltN rfl) ?_
     refine Dw.skip (i := 14) rfl (by kernel_rfl) (Want.no rfl rfl rfl rfl) rfl (ltN rfl) ?_
     refine Dw.pure (i := 15) rfl (by kernel_rfl) (Want.none rfl) rfl (ltN rfl) (QP.pick_t rfl rfl rfl) ?_
     refine Dw.nil (by kernel_rfl) ?_
     refine hk30 _ _ ?_
     refine Run.cond_t rfl ?_
     refine Run.exit rfl ?_
     refine hk14 _ _ ?_
     refine Run.region ?_
     show Sq _ _ _ [0, 1, 2] _ _ _ _
     refine Sq.quiet (i := 0) rfl (Want.none rfl) rfl (ltN rfl) (QP.move rfl rfl).read ?_
     refine Sq.quiet (i := 1) rfl (Want.none rfl) rfl (ltN rfl) (QP.add64 rfl rfl rfl (by first | omega | (simp <;> omega)) (by first | omega | (simp <;> omega))).read ?_
     refine Sq.quiet (i := 2) rfl (Want.none rfl) rfl (ltN rfl) (QP.assign rfl rfl).read ?_
     refine Sq.nil ?_
     exact J.envJ (J.keep (.cons (by repeat constructor) (.cons (by repeat constructor) Takes.nil)) (hl11 (j + 1) (vo) (_) (⟨by omega, by rw [hsy]; unfold expK; rw [if_neg fun h => ?_]; exact hordj; have := (expOk_iff hg (List.mem_of_getElem? hi) (List.mem_of_getElem? hj)).1 h; simp_all⟩) (by omega))) ⟨rfl, rfl, rfl, rfl, trivial⟩
  ·skip
   refine Sq.nil ?_
   refine hk13 _ _ ?_
   refine Run.cond_f rfl ?_
   refine Run.exit rfl ?_
   refine hk9 _ _ ?_
   refine Run.region ?_
   show Sq _ _ _ [0, 1, 2] _ _ _ _
   refine Sq.quiet (i := 0) rfl (Want.none rfl) rfl (ltN rfl) (QP.move rfl rfl).read ?_
   refine Sq.quiet (i := 1) rfl (Want.none rfl) rfl (ltN rfl) (QP.add64 rfl rfl rfl (by first | omega | (simp <;> omega)) (by first | omega | (simp <;> omega))).read ?_
   refine Sq.quiet (i := 2) rfl (Want.none rfl) rfl (ltN rfl) (QP.assign rfl rfl).read ?_
   refine Sq.nil ?_
   exact J.envJ (J.keep (.cons (by repeat constructor) (.cons (by repeat constructor) Takes.nil)) (hl6 (i + 1) (vo) (O) (⟨by omega, by rw [hsx]; rw [show L.take j = L from List.take_of_length_le (by omega)] at hordj; exact hordj⟩) (by omega))) ⟨rfl, rfl, rfl, trivial⟩
 ·skip
  refine Sq.nil ?_
  refine hk8 _ _ ?_
  refine Run.cond_f rfl ?_
  refine Run.exit rfl ?_
  refine hk4 _ _ ?_
  refine Run.seq fun k42 hk42 => ?_
  refine Run.region ?_
  show Sq _ _ _ [0, 1] _ _ _ _
  refine Sq.quiet (i := 0) rfl (Want.none rfl) rfl (ltN rfl) (QP.move rfl rfl).read ?_
  refine Sq.quiet (i := 1) rfl (Want.none rfl) rfl (ltN rfl) (QP.assign rfl rfl).read ?_
  refine Sq.nil ?_
  refine hk42 _ _ ?_
  refine Run.ret ?_
  exact J.ends (res_tmp rfl rfl) (.cons (by repeat constructor) Takes.nil) ⟨O, ⟨L, hL0, by rw [show L.take i = L from List.take_of_length_le (by omega)] at hord; exact hord⟩, rfl⟩
end Slb
