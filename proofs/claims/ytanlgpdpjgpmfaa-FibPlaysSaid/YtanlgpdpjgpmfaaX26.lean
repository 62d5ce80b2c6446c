/- X26: a part of the proof that a law of this package holds for every input; no condition. -/
import Derived.Test.YtanlgpdpjgpmfaaX25
import Derived.Test.YtanlgpdpjgpmfaaM2
namespace Slb
open Go Go.Proofs
set_option maxRecDepth 20000
theorem covers_trans {p q r : Prefix} (h1 : coversB p q = true) (h2 : coversB q r = true) : coversB p r = true := by
  obtain ⟨a1, a2, a3⟩ := covers_iff.1 h1
  obtain ⟨b1, b2, b3⟩ := covers_iff.1 h2
  exact covers_iff.2 ⟨b1, by omega, covers_contains h1 b3⟩
theorem Expands.uniq {xs A B : List Entry} (h : Expands xs A) (h2 : Expands xs B) : A = B := by
  obtain ⟨L, e1, e2⟩ := h
  obtain ⟨L2, e3, e4⟩ := h2
  obtain rfl := ordE_uniq e1 e3
  exact ordE_uniq e4 e2
theorem Expands.idem {xs A B : List Entry} (h : Expands xs A) (h2 : Expands A B) : B = A := by
  obtain ⟨L, hL, hA⟩ := h
  obtain ⟨L2, hL2, hB⟩ := h2
  have hgA : ∀ x ∈ A, checkPairB x.pair = true := fun x hx => OrdE.good hA (expM_good L GoodE.nil) hx
  have htA := tabOf_ord hA
  have hnd : (A.map Entry.pair).Nodup := by
    have := htA.nodup
    unfold tabOf at this
    rw [List.map_map] at this
    exact this
  rw [tab_fold A [] hnd hgA (fun x _ => rfl), List.nil_append] at hL2
  obtain rfl := ordE_uniq htA hL2
  have hself : ∀ x ∈ L2, expV L2 x.pair = x := fun x hx => by
    obtain ⟨c1, c2, _⟩ := checkPair_iff.1 (hgA x hx)
    have hm : meansB x.pair x = true := by
      unfold meansB
      rw [covers_refl c1, covers_refl c2]
      simp
    obtain ⟨b1, b2, b3⟩ := best_of hx hm
    have hb := b3 x hx hm
    unfold expV
    generalize bestB L2 x.pair = b at b1 b2 hb ⊢
    unfold meansB at b2
    simp only [Bool.and_eq_true] at b2
    have l1 := (covers_iff.1 b2.1).2.1
    have l2 := (covers_iff.1 b2.2.1).2.1
    unfold betterE at hb
    simp only [Bool.or_eq_false_iff, Bool.and_eq_false_iff, decide_eq_false_iff_not] at hb
    have hd := covers_eq b2.1 (by omega)
    have hs := covers_eq b2.2.1 (by omega)
    have hbx : b = x := hA.inj b1 hx (pair_ext hd hs)
    rw [hbx]
  have hmem : ∀ e, e ∈ B ↔ e ∈ L2 := fun e => by
    rw [exp_mem hB]
    constructor
    · rintro ⟨h1, x, hx, y, hy, hok, hp⟩
      obtain ⟨_, x1, hx1, x2, hx2, hok1, hpx⟩ := (exp_mem hA).1 hx
      obtain ⟨_, y1, hy1, y2, hy2, hok2, hpy⟩ := (exp_mem hA).1 hy
      unfold expOk at hok hok1 hok2
      rw [Bool.and_eq_true] at hok hok1 hok2
      have ed : x.pair.dst = x1.pair.dst := by rw [← hpx]; rfl
      have es : y.pair.src = y2.pair.src := by rw [← hpy]; rfl
      have ey : y.pair.dst = y1.pair.dst := by rw [← hpy]; rfl
      have ep : expP x1 y2 = e.pair := by rw [← hp]; exact pair_ext ed.symm es.symm
      have hin : expV L e.pair ∈ L2 := (exp_mem hA).2 ⟨rfl, x1, hx1, y2, hy2, by
        unfold expOk
        rw [Bool.and_eq_true]
        exact ⟨covers_trans hok2.1 (by rw [← ey, ← ed]; exact hok.1), by rw [ep, ← hp]; exact hok.2⟩, ep⟩
      have := hself _ hin
      rw [show (expV L e.pair).pair = e.pair from rfl, ← h1] at this
      rw [this]; exact hin
    · intro hx
      obtain ⟨c1, _, _⟩ := checkPair_iff.1 (hgA e hx)
      refine ⟨(hself e hx).symm, e, hx, e, hx, ?_, rfl⟩
      unfold expOk
      rw [covers_refl c1, show checkPairB (expP e e) = true from hgA e hx]
      rfl
  have hp : B.Perm L2 := (List.perm_ext_iff_of_nodup (hB.nodupL keyCmpE) (hA.nodupL keyCmpE)).2 hmem
  exact InOrder.uniq keyCmpE hA (hp.trans hA.perm) (hB.sort.imp fun {a b} hab hba => by have := (keyCmpE.neg a b).1 hab; omega)
theorem Expands.len2 {xs L' : List Entry} (h : Expands xs L') : L'.length ≤ xs.length * xs.length := by
  obtain ⟨L, h1, h2⟩ := h
  have e1 := (imp_len [] xs []).2
  have e2 := expM_len L L []
  rw [← h1.length] at e1
  unfold expM at h2
  rw [← h2.length] at e2
  simp only [List.length_nil, Nat.zero_add] at e1 e2
  exact Nat.le_trans e2 (Nat.mul_le_mul e1 e1)

theorem law_expands (F : Fr) {a : Option Addr} {c : Nat} {xs : List Entry} (hc : xs.length ≤ 9223372036854775807) (ha : ArgSl F a 51 Entry.enc xs) : Spec Try.prog 3 #[.slice a xs.length c] [] F (fun v S => v = .bool true ∧ S = []) := by
 refine Spec.intro (N := 25) (args := [.slice a xs.length c]) Try.func3 rfl rfl (by simp) ?_
 refine Run.seq fun k1 hk1 => ?_
 refine Run.region ?_
 show Sq _ _ _ [0] _ _ _ _
 refine Sq.quiet (i := 0) rfl (Want.none rfl) rfl (ltN rfl) (QP.assign rfl rfl).read ?_
 refine Sq.nil ?_
 refine hk1 _ _ ?_
 refine Run.seq fun k2 hk2 => ?_
 refine Run.seq fun k3 hk3 => ?_
 refine Run.region ?_
 show Sq _ _ _ [0, 1, 2] _ _ _ _
 refine Sq.quiet (i := 0) rfl (Want.none rfl) rfl (ltN rfl) (QP.move rfl rfl).read ?_
 refine Sq.quiet (i := 1) rfl (Want.none rfl) rfl (ltN rfl) (QP.len rfl rfl rfl Try.underlying22).read ?_
 refine Sq.quiet (i := 2) rfl (Want.none rfl) rfl (ltN rfl) (QP.gtr rfl rfl rfl).read ?_
 refine J.caseD (fun c5 => ?_) (fun c5 => ?_)
 ·skip
  refine Sq.nil ?_
  refine hk3 _ _ ?_
  refine Run.cond_t rfl ?_
  refine Run.seq fun k4 hk4 => ?_
  refine Run.region ?_
  show Sq _ _ _ [0, 1] _ _ _ _
  refine Sq.eff (i := 0) rfl (Want.none rfl) rfl (ltN rfl) (EF.call rfl ce10 rfl Takes.nil (fun F' hle hr => live_spec F')) ?_
  rintro _ _ ⟨_, ⟨rfl, rfl⟩, rfl⟩
  refine J.app ?_
  refine Sq.quiet (i := 1) rfl (Want.none rfl) rfl (ltN rfl) (QP.assign rfl rfl).read ?_
  refine Sq.nil ?_
  refine hk4 _ _ ?_
  refine Run.ret ?_
  exact J.ends (res_tmp rfl rfl) Takes.nil ⟨rfl, rfl⟩
 ·skip
  refine Sq.nil ?_
  refine hk3 _ _ ?_
  refine Run.cond_f rfl ?_
  refine Run.skip ?_
  refine hk2 _ _ ?_
  refine Run.seq fun k5 hk5 => ?_
  refine Run.region ?_
  show Sq _ _ _ [0, 1, 2, 3, 4, 5, 6, 7, 8, 9, 10, 11, 12, 13, 14, 15, 16, 17, 18] _ _ _ _
  refine Sq.eff (i := 0) rfl (Want.none rfl) rfl (ltN rfl) (EF.buildSlice0 (enc := Entry.enc) rfl Try.underlying22 z41 zero41 (by simp [Value.cells, Entry.enc_len]) (by decide)) ?_
  rintro _ _ ⟨b7, rfl, rfl⟩
  refine Sq.quiet (i := 1) rfl (Want.none rfl) rfl (ltN rfl) (QP.move rfl rfl).read ?_
  refine Sq.eff (i := 2) rfl (Want.none rfl) rfl (ltN rfl) (EF.appendArg (xs := []) (ys := xs) el41 Entry.enc_len Entry.enc_cell rfl rfl rfl Try.underlying22 Try.underlying22 rfl rfl (by repeat constructor) ha (by simp; omega)) ?_
  rintro sl9 _ rfl
  refine Sq.slCase (v := sl9) (xs := [] ++ xs) (by repeat constructor) (fun a9 c9 hv9 hh9 => ?_)
  subst hv9
  refine Sq.eff (i := 3) rfl (Want.none rfl) rfl (ltN rfl) (EF.call rfl ce12 rfl (.cons (by repeat constructor) Takes.nil) (fun F' hle hr => Spec.lendSl Entry.enc_len (fun F2 _ h2 => expand_spec F2 h2 (by simp; omega)))) ?_
  rintro vA _ ⟨_, ⟨_, ⟨A, heA, rfl⟩, rfl⟩, rfl⟩
  refine J.app ?_
  refine Sq.slCase (v := vA) (xs := A) (by repeat constructor) (fun aA cA hvA hhA => ?_)
  subst hvA
  rw [List.nil_append] at heA
  have hlA := heA.len (by omega)
  refine Sq.quiet (i := 4) rfl (Want.none rfl) rfl (ltN rfl) (QP.move rfl rfl).read ?_
  refine Sq.eff (i := 5) rfl (Want.none rfl) rfl (ltN rfl) (EF.call rfl ce13 rfl Takes.nil (fun F' hle hr => rexpand_spec F' (ha.mono hle) (by omega))) ?_
  rintro vB _ ⟨_, ⟨B, heB, rfl⟩, rfl⟩
  refine J.app ?_
  refine Sq.slCase (v := vB) (xs := B) (by repeat constructor) (fun aB cB hvB hhB => ?_)
  subst hvB
  have hlB := heB.len (by omega)
  refine Sq.eff (i := 6) rfl (Want.none rfl) rfl (ltN rfl) (EF.call rfl ce11 rfl (.cons (by repeat constructor) (.cons (by repeat constructor) Takes.nil)) (fun F' hle hr => sameE F' hhA hhB (by omega) (by omega))) ?_
  rintro _ _ ⟨_, ⟨rfl, rfl⟩, rfl⟩
  refine J.app ?_
  refine J.boolT (decide_eq_true (heA.uniq heB)) ?_
  refine Sq.quiet (i := 7) rfl (Want.none rfl) rfl (ltN rfl) (QP.move rfl rfl).read ?_
  refine Sq.quiet (i := 8) rfl (Want.yes rfl rfl rfl rfl) rfl (ltN rfl) (QP.move rfl rfl).read ?_
  refine Sq.eff (i := 9) rfl (Want.yes rfl rfl rfl rfl) rfl (ltN rfl) (EF.call rfl ce12 rfl Takes.nil (fun F' hle hr => expand_spec F' (ha.mono hle) (by omega))) ?_
  rintro vC _ ⟨_, ⟨C, heC, rfl⟩, rfl⟩
  refine J.app ?_
  refine Sq.slCase (v := vC) (xs := C) (by repeat constructor) (fun aC cC hvC hhC => ?_)
  subst hvC
  have hlC := heC.len (by omega)
  refine Sq.eff (i := 10) rfl (Want.yes rfl rfl rfl rfl) rfl (ltN rfl) (EF.call rfl ce12 rfl (.cons (by repeat constructor) Takes.nil) (fun F' hle hr => Spec.lendSl Entry.enc_len (fun F2 _ h2 => expand_spec F2 h2 (by omega)))) ?_
  rintro vD _ ⟨_, ⟨_, ⟨D, heD, rfl⟩, rfl⟩, rfl⟩
  refine J.app ?_
  refine Sq.slCase (v := vD) (xs := D) (by repeat constructor) (fun aD cD hvD hhD => ?_)
  subst hvD
  obtain rfl := heC.idem heD
  refine Sq.quiet (i := 11) rfl (Want.yes rfl rfl rfl rfl) rfl (ltN rfl) (QP.move rfl rfl).read ?_
  refine Sq.eff (i := 12) rfl (Want.yes rfl rfl rfl rfl) rfl (ltN rfl) (EF.call rfl ce13 rfl Takes.nil (fun F' hle hr => rexpand_spec F' (ha.mono hle) (by omega))) ?_
  rintro vE _ ⟨_, ⟨E, heE, rfl⟩, rfl⟩
  refine J.app ?_
  refine Sq.slCase (v := vE) (xs := E) (by repeat constructor) (fun aE cE hvE hhE => ?_)
  subst hvE
  have hlE := heE.len (by omega)
  refine Sq.eff (i := 13) rfl (Want.yes rfl rfl rfl rfl) rfl (ltN rfl) (EF.call rfl ce11 rfl (.cons (by repeat constructor) (.cons (by repeat constructor) Takes.nil)) (fun F' hle hr => sameE F' hhD hhE (by omega) (by omega))) ?_
  rintro _ _ ⟨_, ⟨rfl, rfl⟩, rfl⟩
  refine J.app ?_
  refine J.boolT (decide_eq_true (heC.uniq heE)) ?_
  refine Sq.quiet (i := 14) rfl (Want.none rfl) rfl (ltN rfl) (QP.pick_t rfl rfl rfl).read ?_
  refine Sq.quiet (i := 15) rfl (Want.none rfl) rfl (ltN rfl) (QP.move rfl rfl).read ?_
  refine Sq.eff (i := 16) rfl (Want.yes rfl rfl rfl rfl) rfl (ltN rfl) (EF.call rfl ce10 rfl Takes.nil (fun F' hle hr => live_spec F')) ?_
  rintro _ _ ⟨_, ⟨rfl, rfl⟩, rfl⟩
  refine J.app ?_
  refine Sq.quiet (i := 17) rfl (Want.none rfl) rfl (ltN rfl) (QP.pick_t rfl rfl rfl).read ?_
  refine Sq.quiet (i := 18) rfl (Want.none rfl) rfl (ltN rfl) (QP.assign rfl rfl).read ?_
  refine Sq.nil ?_
  refine hk5 _ _ ?_
  refine Run.ret ?_
  exact J.ends (res_tmp rfl rfl) Takes.nil ⟨rfl, rfl⟩
end Slb
