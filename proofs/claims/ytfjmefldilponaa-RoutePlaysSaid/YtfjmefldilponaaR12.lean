/- R12: a part of the proof that a law of this package holds for every input; no condition. -/
import Derived.Test.YtfjmefldilponaaR9
import Derived.Test.YtfjmefldilponaaB22
namespace Slb
open Go Go.Proofs
set_option maxRecDepth 20000
theorem compactP (F : Fr) {a : Option Addr} {c : Nat} {xs : List Pair} (hl1 : xs.length ≤ 1000000) : Spec Try.prog 36 #[.slice a xs.length c] [slA 32 34 Pair.enc (.slice a xs.length c) xs] F (fun v S => v = .slice a (compL xs).length c ∧ S = [slA 32 34 Pair.enc (.slice a (compL xs).length c) (compL xs)]) := by
 refine Spec.intro (N := 61) (args := [.slice a xs.length c]) Try.func36 rfl rfl (by simp) ?_
 refine Run.seq fun k1 hk1 => ?_
 refine Run.region ?_
 show Sq _ _ _ [0] _ _ _ _
 refine J.slCase (v := .slice a xs.length c) (xs := xs) (by repeat constructor) (fun a1 c1 hv1 hh => ?_)
 cases hv1
 refine Sq.quiet (i := 0) rfl (Want.none rfl) rfl (ltN rfl) (QP.assign rfl rfl).read ?_
 refine Sq.nil ?_
 refine hk1 _ _ ?_
 refine Run.seq fun k2 hk2 => ?_
 refine Run.seq fun k3 hk3 => ?_
 refine Run.region ?_
 show Sq _ _ _ [0, 1, 2] _ _ _ _
 refine Sq.quiet (i := 0) rfl (Want.none rfl) rfl (ltN rfl) (QP.move rfl rfl).read ?_
 refine Sq.quiet (i := 1) rfl (Want.none rfl) rfl (ltN rfl) (QP.len rfl rfl rfl Try.underlying43).read ?_
 refine Sq.quiet (i := 2) rfl (Want.none rfl) rfl (ltN rfl) (QP.lss rfl rfl rfl).read ?_
 refine J.caseD (fun c8 => ?_) (fun c8 => ?_)
 ·skip
  refine Sq.nil ?_
  refine hk3 _ _ ?_
  refine Run.cond_t rfl ?_
  refine Run.seq fun k4 hk4 => ?_
  refine Run.region ?_
  show Sq _ _ _ [0, 1] _ _ _ _
  refine Sq.quiet (i := 0) rfl (Want.none rfl) rfl (ltN rfl) (QP.move rfl rfl).read ?_
  refine Sq.quiet (i := 1) rfl (Want.none rfl) rfl (ltN rfl) (QP.assign rfl rfl).read ?_
  refine Sq.nil ?_
  refine hk4 _ _ ?_
  refine Run.ret ?_
  exact J.ends (res_tmp rfl rfl) (.cons (by repeat constructor) Takes.nil) ⟨by rw [compL_few (by omega)], by rw [compL_few (by omega)]⟩
 ·skip
  refine Sq.nil ?_
  refine hk3 _ _ ?_
  refine Run.cond_f rfl ?_
  refine Run.skip ?_
  refine hk2 _ _ ?_
  refine Run.seq fun k5 hk5 => ?_
  refine Run.seq fun k6 hk6 => ?_
  refine Run.region ?_
  show Sq _ _ _ [0] _ _ _ _
  refine Sq.quiet (i := 0) rfl (Want.none rfl) rfl (ltN rfl) (QP.assign rfl rfl).read ?_
  refine Sq.nil ?_
  refine hk6 _ _ ?_
  refine Run.block ?_
  refine Run.loop1 (fun (k : Nat) => 1 ≤ k ∧ k ≤ xs.length ∧ compT xs k = xs.take k) (fun k => .cons 0 (.slice a xs.length c) (.cons 3 (.int .i64 k) (.nil))) (fun k => [slA 32 34 Pair.enc (.slice a xs.length c) xs]) (fun k => xs.length - k) (1) (⟨Nat.le_refl _, by omega, compT_start (by omega)⟩) ?_ ?_
  ·exact fun _ j => J.envJ (J.keep (.cons (by repeat constructor) Takes.nil) j) ⟨rfl, rfl, trivial⟩
  rintro k ⟨h1k, hkl, hck⟩ kl7 hl7
  refine Run.seq fun k8 hk8 => ?_
  refine Run.seq fun k9 hk9 => ?_
  refine Run.region ?_
  show Sq _ _ _ [0, 1, 2, 3] _ _ _ _
  refine Sq.quiet (i := 0) rfl (Want.none rfl) rfl (ltN rfl) (QP.move rfl rfl).read ?_
  refine Sq.quiet (i := 1) rfl (Want.none rfl) rfl (ltN rfl) (QP.move rfl rfl).read ?_
  refine Sq.quiet (i := 2) rfl (Want.none rfl) rfl (ltN rfl) (QP.len rfl rfl rfl Try.underlying43).read ?_
  refine Sq.quiet (i := 3) rfl (Want.none rfl) rfl (ltN rfl) (QP.lss rfl rfl rfl).read ?_
  refine J.caseD (fun c13 => ?_) (fun c13 => ?_)
  ·skip
   refine Sq.nil ?_
   refine hk9 _ _ ?_
   refine Run.cond_t rfl ?_
   refine Run.skip ?_
   refine hk8 _ _ ?_
   refine Run.seq fun k10 hk10 => ?_
   refine Run.block ?_
   refine Run.seq fun k11 hk11 => ?_
   refine Run.regionD (M := [0, 0, 3, 7, 0, 0, 32, 112, 240, 511]) (q := 1023) (r := 264) (by kernel_rfl) ?_
   have hlt : k < xs.length := by omega
   obtain ⟨x, hi⟩ : ∃ x, xs[k]? = some x := ⟨_, List.getElem?_eq_getElem hlt⟩
   obtain ⟨y, hp⟩ : ∃ y, xs[k - 1]? = some y := ⟨_, List.getElem?_eq_getElem (by omega)⟩
   obtain ⟨b0, o0, rfl⟩ := hh.get (by omega)
   have hkc : k < c := by have := hh.le; omega
   have htn : ((k : Int) - 1).toNat = k - 1 := by omega
   refine Dw.pure (i := 0) rfl (by kernel_rfl) (Want.none rfl) rfl (ltN rfl) (QP.move rfl rfl) ?_
   refine Dw.pure (i := 1) rfl (by kernel_rfl) (Want.none rfl) rfl (ltN rfl) (QP.move rfl rfl) ?_
   refine Dw.pure (i := 2) rfl (by kernel_rfl) (Want.none rfl) rfl (ltN rfl) (QP.indexAddr rfl rfl rfl Try.underlying43 z32 (by first | omega | (simp <;> omega)) (by first | omega | (simp <;> omega))) ?_
   refine Dw.read (i := 3) rfl (by kernel_rfl) (Want.none rfl) rfl (ltN rfl) (QR.loadSl rfl rfl g32 Pair.enc_len (SlAt.own Pair.enc_len (by repeat constructor)) hi) ?_
   refine Dw.pure (i := 4) rfl (by kernel_rfl) (Want.none rfl) rfl (ltN rfl) (QP.move rfl rfl) ?_
   refine Dw.pure (i := 5) rfl (by kernel_rfl) (Want.none rfl) rfl (ltN rfl) (QP.move rfl rfl) ?_
   refine Dw.pure (i := 6) rfl (by kernel_rfl) (Want.none rfl) rfl (ltN rfl) (QP.sub64 rfl rfl rfl (by first | omega | (simp <;> omega)) (by first | omega | (simp <;> omega))) ?_
   refine Dw.pure (i := 7) rfl (by kernel_rfl) (Want.none rfl) rfl (ltN rfl) (QP.indexAddr rfl rfl rfl Try.underlying43 z32 (by first | omega | (simp <;> omega)) (by first | omega | (simp <;> omega))) ?_
   rw [htn]
   refine Dw.read (i := 8) rfl (by kernel_rfl) (Want.none rfl) rfl (ltN rfl) (QR.loadSl rfl rfl g32 Pair.enc_len (SlAt.own Pair.enc_len (by repeat constructor)) hp) ?_
   refine Dw.pure (i := 9) rfl (by kernel_rfl) (Want.none rfl) rfl (ltN rfl) (QP.eql_agg eq32 rfl rfl rfl) ?_
   refine J.caseD (fun c25 => ?_) (fun c25 => ?_)
   ·skip
    refine Dw.nil (by kernel_rfl) ?_
    refine hk11 _ _ ?_
    refine Run.cond_t rfl ?_
    refine Run.seq fun k12 hk12 => ?_
    refine Run.region ?_
    show Sq _ _ _ [0, 1, 2, 3] _ _ _ _
    refine Sq.quiet (i := 0) rfl (Want.none rfl) rfl (ltN rfl) (QP.move rfl rfl).read ?_
    refine Sq.quiet (i := 1) rfl (Want.none rfl) rfl (ltN rfl) (QP.move rfl rfl).read ?_
    refine Sq.quiet (i := 2) rfl (Want.none rfl) rfl (ltN rfl) (QP.sliceLo rfl rfl rfl Try.underlying43 z32 (by first | omega | (simp <;> omega)) (by first | omega | (simp <;> omega))).read ?_
    rw [slOff_at (i := Int.toNat (k : Int)) (by exact hkc)]
    refine Sq.quiet (i := 3) rfl (Want.none rfl) rfl (ltN rfl) (QP.assign rfl rfl).read ?_
    refine Sq.nil ?_
    refine hk12 _ _ ?_
    refine Run.seq fun k13 hk13 => ?_
    refine Run.seq fun k14 hk14 => ?_
    refine Run.region ?_
    show Sq _ _ _ [0] _ _ _ _
    refine Sq.slEq (by repeat constructor) (List.take_append_drop k xs).symm ?_
    refine Sq.quiet (i := 0) rfl (Want.none rfl) rfl (ltN rfl) (QP.assign rfl rfl).read ?_
    refine Sq.nil ?_
    refine hk14 _ _ ?_
    refine Run.block ?_
    refine Run.loop3 (fun (j : Nat) (i : Nat) (C : List Pair) => C = compT xs (k + i) ∧ C.length = j ∧ 1 ≤ i ∧ i ≤ xs.length - k ∧ j + 1 ≤ k + i ∧ 1 ≤ j) (fun j i C => .cons 0 (.slice (some ⟨b0, o0, none⟩) xs.length c) (.cons 3 (.int .i64 j) (.cons 4 (.slice (some ⟨b0, o0 + k * 34, none⟩) (xs.length - k) (c - k)) (.cons 5 (.int .i64 i) (.nil))))) (fun j i C => [slA 32 34 Pair.enc (.slice (some ⟨b0, o0, none⟩) xs.length c) (C ++ xs.drop j)]) (fun j i C => xs.length - k - i) (k) (1) (xs.take k) (⟨by rw [compT_same hi (by omega) (by rw [hp, show x = y by simpa using c25]), hck], by rw [List.length_take]; omega, Nat.le_refl _, by omega, by omega, by omega⟩) ?_ ?_
    ·exact fun _ j => J.envJ (J.keep (.cons (by repeat constructor) Takes.nil) j) ⟨rfl, rfl, rfl, rfl, trivial⟩
    rintro j i C ⟨hC, hCj, h1i, hil, hji, h1j⟩ kl15 hl15
    refine Run.seq fun k16 hk16 => ?_
    refine Run.seq fun k17 hk17 => ?_
    refine Run.region ?_
    show Sq _ _ _ [0, 1, 2, 3] _ _ _ _
    refine Sq.quiet (i := 0) rfl (Want.none rfl) rfl (ltN rfl) (QP.move rfl rfl).read ?_
    refine Sq.quiet (i := 1) rfl (Want.none rfl) rfl (ltN rfl) (QP.move rfl rfl).read ?_
    refine Sq.quiet (i := 2) rfl (Want.none rfl) rfl (ltN rfl) (QP.len rfl rfl rfl Try.underlying43).read ?_
    refine Sq.quiet (i := 3) rfl (Want.none rfl) rfl (ltN rfl) (QP.lss rfl rfl rfl).read ?_
    refine J.caseD (fun c32 => ?_) (fun c32 => ?_)
    ·skip
     refine Sq.nil ?_
     refine hk17 _ _ ?_
     refine Run.cond_t rfl ?_
     refine Run.skip ?_
     refine hk16 _ _ ?_
     refine Run.seq fun k18 hk18 => ?_
     refine Run.block ?_
     refine Run.seq fun k19 hk19 => ?_
     refine Run.regionD (M := [0, 0, 3, 7, 0, 0, 32, 112, 240, 511]) (q := 1023) (r := 264) (by kernel_rfl) ?_
     have hlt2 : k + i < xs.length := by omega
     have hcl := mid_len (ys := xs) hCj (by omega)
     obtain ⟨x, hi2⟩ : ∃ x, xs[k + i]? = some x := ⟨_, List.getElem?_eq_getElem hlt2⟩
     obtain ⟨y, hp2⟩ : ∃ y, xs[k + i - 1]? = some y := ⟨_, List.getElem?_eq_getElem (by omega)⟩
     have hj := mid_row (k := k) (i := i) hCj (by omega) hi2
     have hq := mid_row (k := k) (i := i - 1) hCj (by omega) (show xs[k + (i - 1)]? = some y from by rw [show k + (i - 1) = k + i - 1 by omega]; exact hp2)
     have htn2 : ((i : Int) - 1).toNat = i - 1 := by omega
     refine Dw.pure (i := 0) rfl (by kernel_rfl) (Want.none rfl) rfl (ltN rfl) (QP.move rfl rfl) ?_
     refine Dw.pure (i := 1) rfl (by kernel_rfl) (Want.none rfl) rfl (ltN rfl) (QP.move rfl rfl) ?_
     refine Dw.pure (i := 2) rfl (by kernel_rfl) (Want.none rfl) rfl (ltN rfl) (QP.indexAddr rfl rfl rfl Try.underlying43 z32 (by first | omega | (simp <;> omega)) (by first | omega | (simp <;> omega))) ?_
     refine Dw.read (i := 3) rfl (by kernel_rfl) (Want.none rfl) rfl (ltN rfl) (QR.loadSl rfl rfl g32 Pair.enc_len (SlAt.dropOwn k Pair.enc_len (by omega) (by repeat constructor)) hj) ?_
     refine Dw.pure (i := 4) rfl (by kernel_rfl) (Want.none rfl) rfl (ltN rfl) (QP.move rfl rfl) ?_
     refine Dw.pure (i := 5) rfl (by kernel_rfl) (Want.none rfl) rfl (ltN rfl) (QP.move rfl rfl) ?_
     refine Dw.pure (i := 6) rfl (by kernel_rfl) (Want.none rfl) rfl (ltN rfl) (QP.sub64 rfl rfl rfl (by first | omega | (simp <;> omega)) (by first | omega | (simp <;> omega))) ?_
     refine Dw.pure (i := 7) rfl (by kernel_rfl) (Want.none rfl) rfl (ltN rfl) (QP.indexAddr rfl rfl rfl Try.underlying43 z32 (by first | omega | (simp <;> omega)) (by first | omega | (simp <;> omega))) ?_
     rw [htn2]
     refine Dw.read (i := 8) rfl (by kernel_rfl) (Want.none rfl) rfl (ltN rfl) (QR.loadSl rfl rfl g32 Pair.enc_len (SlAt.dropOwn k Pair.enc_len (by omega) (by repeat constructor)) hq) ?_
     refine Dw.pure (i := 9) rfl (by kernel_rfl) (Want.none rfl) rfl (ltN rfl) (QP.neq_agg eq32 rfl rfl rfl) ?_
     refine J.caseD (fun c44 => ?_) (fun c44 => ?_)
     ·skip
      refine Dw.nil (by kernel_rfl) ?_
      refine hk19 _ _ ?_
      refine Run.cond_t rfl ?_
      refine Run.seq fun k20 hk20 => ?_
      refine Run.region ?_
      show Sq _ _ _ [0, 1, 2, 3, 4, 5, 6, 7] _ _ _ _
      refine Sq.quiet (i := 0) rfl (Want.none rfl) rfl (ltN rfl) (QP.move rfl rfl).read ?_
      refine Sq.quiet (i := 1) rfl (Want.none rfl) rfl (ltN rfl) (QP.move rfl rfl).read ?_
      refine Sq.quiet (i := 2) rfl (Want.none rfl) rfl (ltN rfl) (QP.move rfl rfl).read ?_
      refine Sq.quiet (i := 3) rfl (Want.none rfl) rfl (ltN rfl) (QP.move rfl rfl).read ?_
      refine Sq.quiet (i := 4) rfl (Want.none rfl) rfl (ltN rfl) (QP.indexAddr rfl rfl rfl Try.underlying43 z32 (by first | omega | (simp <;> omega)) (by first | omega | (simp <;> omega))).read ?_
      refine Sq.quiet (i := 5) rfl (Want.none rfl) rfl (ltN rfl) (QR.loadSl rfl rfl g32 Pair.enc_len (SlAt.dropOwn k Pair.enc_len (by omega) (by repeat constructor)) hj) ?_
      refine Sq.quiet (i := 6) rfl (Want.none rfl) rfl (ltN rfl) (QP.indexAddr rfl rfl rfl Try.underlying43 z32 (by first | omega | (simp <;> omega)) (by first | omega | (simp <;> omega))).read ?_
      refine Sq.act (i := 7) rfl (Want.none rfl) rfl (EF.storeSl (enc := Pair.enc) (s := x) rfl rfl rfl z32 (by repeat constructor) Pair.enc_len Pair.enc_cell (by first | omega | (simp <;> omega))) ?_
      rintro _ _ rfl
      refine Sq.slEq (by repeat constructor) (set_mid (ys := xs) hCj (by omega)) ?_
      refine Sq.nil ?_
      refine hk20 _ _ ?_
      refine Run.region ?_
      show Sq _ _ _ [0, 1, 2] _ _ _ _
      refine Sq.quiet (i := 0) rfl (Want.none rfl) rfl (ltN rfl) (QP.move rfl rfl).read ?_
      refine Sq.quiet (i := 1) rfl (Want.none rfl) rfl (ltN rfl) (QP.add64 rfl rfl rfl (by first | omega | (simp <;> omega)) (by first | omega | (simp <;> omega))).read ?_
      refine Sq.quiet (i := 2) rfl (Want.none rfl) rfl (ltN rfl) (QP.assign rfl rfl).read ?_
      refine Sq.nil ?_
      refine hk18 _ _ ?_
      refine Run.region ?_
      show Sq _ _ _ [0, 1, 2] _ _ _ _
      refine Sq.quiet (i := 0) rfl (Want.none rfl) rfl (ltN rfl) (QP.move rfl rfl).read ?_
      refine Sq.quiet (i := 1) rfl (Want.none rfl) rfl (ltN rfl) (QP.add64 rfl rfl rfl (by first | omega | (simp <;> omega)) (by first | omega | (simp <;> omega))).read ?_
      refine Sq.quiet (i := 2) rfl (Want.none rfl) rfl (ltN rfl) (QP.assign rfl rfl).read ?_
      refine Sq.nil ?_
      exact J.envJ (J.keep (.cons (by repeat constructor) Takes.nil) (hl15 (j + 1) (i + 1) (C ++ [x]) (⟨by rw [hC]; exact (compT_new hi2 hp2 (by simpa using c44)).symm, by simp [hCj], by omega, by omega, by omega, by omega⟩) (by omega))) ⟨rfl, rfl, rfl, rfl, trivial⟩
     ·skip
      refine Dw.nil (by kernel_rfl) ?_
      refine hk19 _ _ ?_
      refine Run.cond_f rfl ?_
      refine Run.skip ?_
      refine hk18 _ _ ?_
      refine Run.region ?_
      show Sq _ _ _ [0, 1, 2] _ _ _ _
      refine Sq.quiet (i := 0) rfl (Want.none rfl) rfl (ltN rfl) (QP.move rfl rfl).read ?_
      refine Sq.quiet (i := 1) rfl (Want.none rfl) rfl (ltN rfl) (QP.add64 rfl rfl rfl (by first | omega | (simp <;> omega)) (by first | omega | (simp <;> omega))).read ?_
      refine Sq.quiet (i := 2) rfl (Want.none rfl) rfl (ltN rfl) (QP.assign rfl rfl).read ?_
      refine Sq.nil ?_
      exact J.envJ (J.keep (.cons (by repeat constructor) Takes.nil) (hl15 (j) (i + 1) (C) (⟨by rw [hC]; exact (compT_same hi2 (by omega) (by rw [hp2, show x = y by simpa using c44])).symm, hCj, by omega, by omega, by omega, by omega⟩) (by omega))) ⟨rfl, rfl, rfl, rfl, trivial⟩
    ·skip
     refine Sq.nil ?_
     refine hk17 _ _ ?_
     refine Run.cond_f rfl ?_
     refine Run.exit rfl ?_
     refine hk13 _ _ ?_
     refine Run.seq fun k21 hk21 => ?_
     refine Run.region ?_
     show Sq _ _ _ [0, 1, 2, 3] _ _ _ _
     have hle2 := hh.le
     obtain rfl : i = xs.length - k := by omega
     have hcl := mid_len (ys := xs) hCj (by omega)
     have hCL : C = compL xs := by rw [hC, show k + (xs.length - k) = xs.length by omega]; rfl
     subst hCL
     subst hCj
     refine Sq.quiet (i := 0) rfl (Want.none rfl) rfl (ltN rfl) (QP.move rfl rfl).read ?_
     refine Sq.quiet (i := 1) rfl (Want.none rfl) rfl (ltN rfl) (QP.move rfl rfl).read ?_
     refine Sq.quiet (i := 2) rfl (Want.none rfl) rfl (ltN rfl) (QP.sliceLo rfl rfl rfl Try.underlying43 z32 (by first | omega | (simp <;> omega)) (by first | omega | (simp <;> omega))).read ?_
     refine Sq.act (i := 3) rfl (Want.none rfl) rfl (EF.clearSl (enc := Pair.enc) rfl rfl Try.underlying43 zero32 (by simp [Value.cells, Pair.enc_len]) (by simpa [Value.cells] using Pair.enc_cell _) Pair.enc_len (by repeat constructor) rfl (by first | omega | (simp <;> omega)) (by first | omega | (simp <;> omega))) ?_
     rintro _ _ rfl
     refine Sq.slEq (by repeat constructor) (mid_take (C := compL xs) (ys := xs) (j := (compL xs).length) rfl) ?_
     refine Sq.nil ?_
     refine hk21 _ _ ?_
     refine Run.seq fun k22 hk22 => ?_
     refine Run.region ?_
     show Sq _ _ _ [0, 1, 2, 3] _ _ _ _
     refine Sq.quiet (i := 0) rfl (Want.none rfl) rfl (ltN rfl) (QP.move rfl rfl).read ?_
     refine Sq.quiet (i := 1) rfl (Want.none rfl) rfl (ltN rfl) (QP.move rfl rfl).read ?_
     refine Sq.quiet (i := 2) rfl (Want.none rfl) rfl (ltN rfl) (QP.sliceHi rfl rfl rfl Try.underlying43 z32 (by first | omega | (simp <;> omega)) (by first | omega | (simp <;> omega))).read ?_
     rw [SlH.off hh 34]
     refine Sq.quiet (i := 3) rfl (Want.none rfl) rfl (ltN rfl) (QP.assign rfl rfl).read ?_
     refine Sq.nil ?_
     refine hk22 _ _ ?_
     refine Run.ret ?_
     exact J.ends (res_tmp rfl rfl) (.cons (by repeat constructor) Takes.nil) ⟨rfl, rfl⟩
   ·skip
    refine Dw.nil (by kernel_rfl) ?_
    refine hk11 _ _ ?_
    refine Run.cond_f rfl ?_
    refine Run.skip ?_
    refine hk10 _ _ ?_
    refine Run.region ?_
    show Sq _ _ _ [0, 1, 2] _ _ _ _
    refine Sq.quiet (i := 0) rfl (Want.none rfl) rfl (ltN rfl) (QP.move rfl rfl).read ?_
    refine Sq.quiet (i := 1) rfl (Want.none rfl) rfl (ltN rfl) (QP.add64 rfl rfl rfl (by first | omega | (simp <;> omega)) (by first | omega | (simp <;> omega))).read ?_
    refine Sq.quiet (i := 2) rfl (Want.none rfl) rfl (ltN rfl) (QP.assign rfl rfl).read ?_
    refine Sq.nil ?_
    exact J.envJ (J.keep (.cons (by repeat constructor) Takes.nil) (hl7 (k + 1) (⟨by omega, by omega, compT_step hck hi hp (by simpa using c25)⟩) (by omega))) ⟨rfl, rfl, trivial⟩
  ·skip
   refine Sq.nil ?_
   refine hk9 _ _ ?_
   refine Run.cond_f rfl ?_
   refine Run.exit rfl ?_
   refine hk5 _ _ ?_
   refine Run.seq fun k23 hk23 => ?_
   refine Run.region ?_
   show Sq _ _ _ [0, 1] _ _ _ _
   refine Sq.quiet (i := 0) rfl (Want.none rfl) rfl (ltN rfl) (QP.move rfl rfl).read ?_
   refine Sq.quiet (i := 1) rfl (Want.none rfl) rfl (ltN rfl) (QP.assign rfl rfl).read ?_
   refine Sq.nil ?_
   refine hk23 _ _ ?_
   refine Run.ret ?_
   exact J.ends (res_tmp rfl rfl) (.cons (by repeat constructor) Takes.nil) ⟨by rw [compL_all hck (by omega)], by rw [compL_all hck (by omega)]⟩

theorem sameR (F : Fr) {a a2 : Option Addr} {c c2 : Nat} {xs ys : List Route} (h1 : SlH a c xs) (h2 : SlH a2 c2 ys) (hl1 : xs.length ≤ 1000000) (hl2 : ys.length ≤ 1000000)  : Spec Try.prog 16 #[.slice a xs.length c, .slice a2 ys.length c2] [slA 37 81 Route.enc (.slice a xs.length c) xs, slA 37 81 Route.enc (.slice a2 ys.length c2) ys] F (fun v S => v = .bool (decide (xs = ys)) ∧ S = [slA 37 81 Route.enc (.slice a xs.length c) xs, slA 37 81 Route.enc (.slice a2 ys.length c2) ys]) := by
 refine Spec.intro (N := 26) (args := [.slice a xs.length c, .slice a2 ys.length c2]) Try.func16 rfl rfl (by simp) ?_
 refine Run.seq fun k1 hk1 => ?_
 refine Run.region ?_
 show Sq _ _ _ [0] _ _ _ _
 refine Sq.quiet (i := 0) rfl (Want.none rfl) rfl (ltN rfl) (QP.assign rfl rfl).read ?_
 refine Sq.nil ?_
 refine hk1 _ _ ?_
 refine Run.seq fun k2 hk2 => ?_
 refine Run.seq fun k3 hk3 => ?_
 refine Run.region ?_
 show Sq _ _ _ [0, 1, 2, 3, 4] _ _ _ _
 refine Sq.quiet (i := 0) rfl (Want.none rfl) rfl (ltN rfl) (QP.move rfl rfl).read ?_
 refine Sq.quiet (i := 1) rfl (Want.none rfl) rfl (ltN rfl) (QP.len rfl rfl rfl Try.underlying46).read ?_
 refine Sq.quiet (i := 2) rfl (Want.none rfl) rfl (ltN rfl) (QP.move rfl rfl).read ?_
 refine Sq.quiet (i := 3) rfl (Want.none rfl) rfl (ltN rfl) (QP.len rfl rfl rfl Try.underlying46).read ?_
 refine Sq.quiet (i := 4) rfl (Want.none rfl) rfl (ltN rfl) (QP.neq rfl rfl rfl).read ?_
 refine J.caseD (fun c10 => ?_) (fun c10 => ?_)
 ·skip
  refine Sq.nil ?_
  refine hk3 _ _ ?_
  refine Run.cond_t rfl ?_
  refine Run.seq fun k4 hk4 => ?_
  refine Run.region ?_
  show Sq _ _ _ [0] _ _ _ _
  refine Sq.quiet (i := 0) rfl (Want.none rfl) rfl (ltN rfl) (QP.assign rfl rfl).read ?_
  refine Sq.nil ?_
  refine hk4 _ _ ?_
  refine Run.ret ?_
  exact J.ends (res_tmp rfl rfl) (.cons (by repeat constructor) (.cons (by repeat constructor) Takes.nil)) ⟨by rw [decide_eq_false]; intro h; subst h; exact c10 rfl, rfl⟩
 ·skip
  refine Sq.nil ?_
  refine hk3 _ _ ?_
  refine Run.cond_f rfl ?_
  refine Run.skip ?_
  refine hk2 _ _ ?_
  refine Run.seq fun k5 hk5 => ?_
  refine Run.seq fun k6 hk6 => ?_
  refine Run.region ?_
  show Sq _ _ _ [0] _ _ _ _
  refine Sq.quiet (i := 0) rfl (Want.none rfl) rfl (ltN rfl) (QP.assign rfl rfl).read ?_
  refine Sq.nil ?_
  refine hk6 _ _ ?_
  refine Run.block ?_
  refine Run.loop1 (fun (i : Nat) => i ≤ xs.length ∧ xs.length = ys.length ∧ xs.take i = ys.take i) (fun i => .cons 0 (.slice a xs.length c) (.cons 1 (.slice a2 ys.length c2) (.cons 5 (.int .i64 i) (.nil)))) (fun i => [slA 37 81 Route.enc (.slice a xs.length c) xs, slA 37 81 Route.enc (.slice a2 ys.length c2) ys]) (fun i => xs.length - i) (0) (⟨Nat.zero_le _, by omega, rfl⟩) ?_ ?_
  ·exact fun _ j => J.envJ (J.keep (.cons (by repeat constructor) (.cons (by repeat constructor) Takes.nil)) j) ⟨rfl, rfl, rfl, trivial⟩
  rintro i ⟨hile, hlen, heq⟩ kl7 hl7
  refine Run.seq fun k8 hk8 => ?_
  refine Run.seq fun k9 hk9 => ?_
  refine Run.region ?_
  show Sq _ _ _ [0, 1, 2, 3] _ _ _ _
  refine Sq.quiet (i := 0) rfl (Want.none rfl) rfl (ltN rfl) (QP.move rfl rfl).read ?_
  refine Sq.quiet (i := 1) rfl (Want.none rfl) rfl (ltN rfl) (QP.move rfl rfl).read ?_
  refine Sq.quiet (i := 2) rfl (Want.none rfl) rfl (ltN rfl) (QP.len rfl rfl rfl Try.underlying46).read ?_
  refine Sq.quiet (i := 3) rfl (Want.none rfl) rfl (ltN rfl) (QP.lss rfl rfl rfl).read ?_
  refine J.caseD (fun c14 => ?_) (fun c14 => ?_)
  ·skip
   refine Sq.nil ?_
   refine hk9 _ _ ?_
   refine Run.cond_t rfl ?_
   refine Run.skip ?_
   refine hk8 _ _ ?_
   refine Run.seq fun k10 hk10 => ?_
   refine Run.block ?_
   refine Run.seq fun k11 hk11 => ?_
   refine Run.regionD (M := [0, 0, 3, 7, 0, 0, 48, 112, 255]) (q := 511) (r := 136) (by kernel_rfl) ?_
   obtain ⟨x, hx⟩ : ∃ x, xs[i]? = some x := ⟨_, List.getElem?_eq_getElem (by omega)⟩
   obtain ⟨y, hy⟩ : ∃ y, ys[i]? = some y := ⟨_, List.getElem?_eq_getElem (by omega)⟩
   obtain ⟨b0, o0, rfl⟩ := h1.get (by omega)
   obtain ⟨b1, o1, rfl⟩ := h2.get (by omega)
   refine Dw.pure (i := 0) rfl (by kernel_rfl) (Want.none rfl) rfl (ltN rfl) (QP.move rfl rfl) ?_
   refine Dw.pure (i := 1) rfl (by kernel_rfl) (Want.none rfl) rfl (ltN rfl) (QP.move rfl rfl) ?_
   refine Dw.pure (i := 2) rfl (by kernel_rfl) (Want.none rfl) rfl (ltN rfl) (QP.indexAddr rfl rfl rfl Try.underlying46 z37 (by first | omega | (simp <;> omega)) (by first | omega | (simp <;> omega))) ?_
   refine Dw.read (i := 3) rfl (by kernel_rfl) (Want.none rfl) rfl (ltN rfl) (QR.loadSl rfl rfl g37 Route.enc_len (SlAt.own Route.enc_len (by repeat constructor)) hx) ?_
   refine Dw.pure (i := 4) rfl (by kernel_rfl) (Want.none rfl) rfl (ltN rfl) (QP.move rfl rfl) ?_
   refine Dw.pure (i := 5) rfl (by kernel_rfl) (Want.none rfl) rfl (ltN rfl) (QP.move rfl rfl) ?_
   refine Dw.pure (i := 6) rfl (by kernel_rfl) (Want.none rfl) rfl (ltN rfl) (QP.indexAddr rfl rfl rfl Try.underlying46 z37 (by first | omega | (simp <;> omega)) (by first | omega | (simp <;> omega))) ?_
   refine Dw.read (i := 7) rfl (by kernel_rfl) (Want.none rfl) rfl (ltN rfl) (QR.loadSl rfl rfl g37 Route.enc_len (SlAt.own Route.enc_len (by repeat constructor)) hy) ?_
   refine Dw.pure (i := 8) rfl (by kernel_rfl) (Want.none rfl) rfl (ltN rfl) (QP.neq_agg eq37 rfl rfl rfl) ?_
   refine J.caseD (fun c25 => ?_) (fun c25 => ?_)
   ·skip
    refine Dw.nil (by kernel_rfl) ?_
    refine hk11 _ _ ?_
    refine Run.cond_t rfl ?_
    refine Run.seq fun k12 hk12 => ?_
    refine Run.region ?_
    show Sq _ _ _ [0] _ _ _ _
    refine Sq.quiet (i := 0) rfl (Want.none rfl) rfl (ltN rfl) (QP.assign rfl rfl).read ?_
    refine Sq.nil ?_
    refine hk12 _ _ ?_
    refine Run.ret ?_
    exact J.ends (res_tmp rfl rfl) (.cons (by repeat constructor) (.cons (by repeat constructor) Takes.nil)) ⟨by rw [decide_eq_false]; intro h; subst h; rw [hx] at hy; cases hy; exact c25 rfl, rfl⟩
   ·skip
    refine Dw.nil (by kernel_rfl) ?_
    refine hk11 _ _ ?_
    refine Run.cond_f rfl ?_
    refine Run.skip ?_
    refine hk10 _ _ ?_
    refine Run.region ?_
    show Sq _ _ _ [0, 1, 2] _ _ _ _
    refine Sq.quiet (i := 0) rfl (Want.none rfl) rfl (ltN rfl) (QP.move rfl rfl).read ?_
    refine Sq.quiet (i := 1) rfl (Want.none rfl) rfl (ltN rfl) (QP.add64 rfl rfl rfl (by first | omega | (simp <;> omega)) (by first | omega | (simp <;> omega))).read ?_
    refine Sq.quiet (i := 2) rfl (Want.none rfl) rfl (ltN rfl) (QP.assign rfl rfl).read ?_
    refine Sq.nil ?_
    exact J.envJ (J.keep (.cons (by repeat constructor) (.cons (by repeat constructor) Takes.nil)) (hl7 (i + 1) (⟨by omega, hlen, by rw [List.take_add_one, List.take_add_one, heq, hx, hy, show x = y by simpa using c25]⟩) (by omega))) ⟨rfl, rfl, rfl, trivial⟩
  ·skip
   refine Sq.nil ?_
   refine hk9 _ _ ?_
   refine Run.cond_f rfl ?_
   refine Run.exit rfl ?_
   refine hk5 _ _ ?_
   refine Run.seq fun k13 hk13 => ?_
   refine Run.region ?_
   show Sq _ _ _ [0] _ _ _ _
   refine Sq.quiet (i := 0) rfl (Want.none rfl) rfl (ltN rfl) (QP.assign rfl rfl).read ?_
   refine Sq.nil ?_
   refine hk13 _ _ ?_
   refine Run.ret ?_
   exact J.ends (res_tmp rfl rfl) (.cons (by repeat constructor) (.cons (by repeat constructor) Takes.nil)) ⟨by rw [decide_eq_true]; rw [List.take_of_length_le (by omega), List.take_of_length_le (by omega)] at heq; exact heq, rfl⟩

theorem reckonAll (F : Fr) {b : Nat} {most : Int} {M : TabR} (hM : M.length ≤ 1000000) (hh0 : HoldR M)  : Spec Try.prog 13 #[.pointer (some ⟨b, 0, none⟩), .func (.func 14) #[] #[]] [RTab b most M] F (fun v S => ∃ r E es a c, vals E = M ∧ (E.map (·.1)).Nodup ∧ es.Perm E ∧ SortedE es ∧ v = .slice a (compL ((es.filter fun e => newM e.2.2).map fun e => e.2.2.pair)).length c ∧ S = [blk b (RouteTable.enc ⟨most, some r⟩) 76, mapR r (ptrs (stepE recG E es)), rowsA Route.enc 37 (stepE recG E es), slA 32 34 Pair.enc (.slice a (compL ((es.filter fun e => newM e.2.2).map fun e => e.2.2.pair)).length c) (compL ((es.filter fun e => newM e.2.2).map fun e => e.2.2.pair))]) := by
 refine Spec.intro (N := 42) (args := [.pointer (some ⟨b, 0, none⟩), .func (.func 14) #[] #[]]) Try.func13 rfl rfl (by simp) ?_
 refine Run.seq fun k1 hk1 => ?_
 refine Run.region ?_
 show Sq _ _ _ [0] _ _ _ _
 refine J.addSl 32 34 Pair.enc ?_
 refine Sq.quiet (i := 0) rfl (Want.none rfl) rfl (ltN rfl) (QP.assign rfl rfl).read ?_
 refine Sq.nil ?_
 refine hk1 _ _ ?_
 refine Run.seq fun k2 hk2 => ?_
 refine Run.seq fun k3 hk3 => ?_
 refine Run.region ?_
 show Sq _ _ _ [0, 1] _ _ _ _
 refine Sq.quiet (i := 0) rfl (Want.none rfl) rfl (ltN rfl) (QP.move rfl rfl).read ?_
 refine Sq.quiet (i := 1) rfl (Want.none rfl) rfl (ltN rfl) (QP.fn_eq_nil rfl rfl rfl Try.underlying45).read ?_
 refine Sq.nil ?_
 refine hk3 _ _ ?_
 refine Run.cond_f rfl ?_
 refine Run.skip ?_
 refine hk2 _ _ ?_
 refine Run.seq fun k4 hk4 => ?_
 refine Run.seq fun k5 hk5 => ?_
 refine Run.region ?_
 show Sq _ _ _ [0, 1, 2, 3] _ _ _ _
 refine Sq.quiet (i := 0) rfl (Want.none rfl) rfl (ltN rfl) (QP.move rfl rfl).read ?_
 refine Sq.eff (i := 1) rfl (Want.none rfl) rfl (ltN rfl) (EF.call rfl ce35 rfl (.cons (by repeat constructor) Takes.nil) (fun F' hle hr => allT F' hM)) ?_
 rintro v11 _ ⟨_, ⟨r, E, es, hv, hn, hp, hs, rfl⟩, rfl⟩
 refine J.app ?_
 refine Sq.slCase (v := v11) (xs := es) (by repeat constructor) (fun a11 c11 hv11 hh11 => ?_)
 subst hv11
 have hyl : es.length = E.length := hp.length_eq
 have hEl : E.length = M.length := by rw [← hv, lenR]
 refine Sq.quiet (i := 2) rfl (Want.none rfl) rfl (ltN rfl) (QP.len rfl rfl rfl Try.underlying80).read ?_
 refine Sq.quiet (i := 3) rfl (Want.none rfl) rfl (ltN rfl) (QP.move rfl rfl).read ?_
 refine Sq.nil ?_
 refine hk5 _ _ ?_
 refine Run.block ?_
 refine Run.loop3 (fun (i : Nat) (Pm : List (RouteKey × Nat)) (va : Value) => i ≤ es.length ∧ Pm = ptrs (stepE recG E (es.take i))) (fun i Pm va => .cons 0 (.pointer (some ⟨b, 0, none⟩)) (.cons 1 (.func (.func 14) #[] #[]) (.cons 4 (va) (.cons 11 (.slice a11 es.length c11) (.cons 12 (.int .i64 es.length) (.cons 13 (.int .i64 i) (.nil))))))) (fun i Pm va => [blk b (RouteTable.enc ⟨most, some r⟩) 76, mapR r Pm, rowsA Route.enc 37 (stepE recG E (es.take i)), slA 77 1 pvE (.slice a11 es.length c11) es, slA 32 34 Pair.enc va (((es.take i).filter fun e => newM e.2.2).map fun e => e.2.2.pair)]) (fun i Pm va => es.length - i) (0) (ptrs E) (.slice none 0 0) (⟨Nat.zero_le _, rfl⟩) ?_ ?_
 ·exact fun _ j => J.envJ (J.keep (.cons (by repeat constructor) (.cons (by repeat constructor) (.cons (by repeat constructor) (.cons (by repeat constructor) (.cons (by repeat constructor) Takes.nil))))) j) ⟨rfl, rfl, rfl, rfl, rfl, rfl, trivial⟩
 rintro i Pm va ⟨hile, hPm⟩ kl6 hl6
 refine Run.seq fun k7 hk7 => ?_
 refine Run.region ?_
 show Sq _ _ _ [0] _ _ _ _
 refine Sq.quiet (i := 0) rfl (Want.none rfl) rfl (ltN rfl) (QP.lss rfl rfl rfl).read ?_
 refine J.caseD (fun c14 => ?_) (fun c14 => ?_)
 ·skip
  refine Sq.nil ?_
  refine hk7 _ _ ?_
  refine Run.seq fun k8 hk8 => ?_
  refine Run.cond_t rfl ?_
  refine Run.skip ?_
  refine hk8 _ _ ?_
  refine Run.seq fun k9 hk9 => ?_
  refine Run.block ?_
  refine Run.seq fun k10 hk10 => ?_
  refine Run.region ?_
  show Sq _ _ _ [0, 1, 2] _ _ _ _
  have hlt : i < es.length := by omega
  obtain ⟨e, hi⟩ : ∃ e, es[i]? = some e := ⟨_, List.getElem?_eq_getElem hlt⟩
  obtain ⟨b0, o0, rfl⟩ := hh11.get (by omega)
  have hlook : alook (stepE (recG) E (es.take i)) e.1 = some (e.2.1, e.2.2) := stepE_look hn hp hi
  have hhold := hh0 _ (mem_of_es hv hp hi)
  simp only at hhold
  refine Sq.openE (by repeat constructor) (fun _ g => rowsA_open (c := e.2.1) (s := e.2.2) hlook g) fun _ => ?_
  refine Sq.app ?_
  have hl1 : (((es.take i).filter fun e => newM e.2.2).map fun e => e.2.2.pair).length ≤ 1000000 := by
    rw [List.length_map]
    have := List.length_filter_le (fun e => newM e.2.2) (es.take i)
    have := List.length_take_le i es
    omega
  refine Sq.quiet (i := 0) rfl (Want.none rfl) rfl (ltN rfl) (QP.indexAddr rfl rfl rfl Try.underlying80 z77 (by first | omega | (simp <;> omega)) (by first | omega | (simp <;> omega))).read ?_
  refine Sq.quiet (i := 1) rfl (Want.none rfl) rfl (ltN rfl) (QR.loadSl1 (ev := evE) rfl rfl g77 (SlAt.own (enc := pvE) (fun _ => rfl) (by repeat constructor)) hi) ?_
  refine Sq.quiet (i := 2) rfl (Want.none rfl) rfl (ltN rfl) (QP.assign rfl rfl).read ?_
  refine Sq.nil ?_
  refine hk10 _ _ ?_
  refine Run.seq fun k11 hk11 => ?_
  refine Run.region ?_
  show Sq _ _ _ [0, 1, 2, 3, 4, 5] _ _ _ _
  refine Sq.quiet (i := 0) rfl (Want.none rfl) rfl (ltN rfl) (QP.move rfl rfl).read ?_
  refine Sq.quiet (i := 1) rfl (Want.none rfl) rfl (ltN rfl) (QP.move rfl rfl).read ?_
  refine Sq.quiet (i := 2) rfl (Want.none rfl) rfl (ltN rfl) (QP.nilCheck rfl rfl).read ?_
  refine Sq.quiet (i := 3) rfl (Want.none rfl) rfl (ltN rfl) (QR.load rfl rfl g37 (Route.enc_sub _)) ?_
  refine Sq.eff (i := 4) rfl (Want.none rfl) rfl (ltN rfl) (EF.callV rfl rfl ce14 rfl Takes.nil (fun F' hle hr => plus_spec F' e.2.2)) ?_
  rintro _ _ ⟨_, ⟨rfl, rfl⟩, rfl⟩
  refine J.app ?_
  refine Sq.quiet (i := 5) rfl (Want.none rfl) rfl (ltN rfl) (QP.assign rfl rfl).read ?_
  refine Sq.nil ?_
  refine hk11 _ _ ?_
  refine Run.seq fun k12 hk12 => ?_
  refine Run.seq fun k13 hk13 => ?_
  refine Run.region ?_
  show Sq _ _ _ [0, 1, 2, 3, 4, 5] _ _ _ _
  refine Sq.quiet (i := 0) rfl (Want.none rfl) rfl (ltN rfl) (QP.move rfl rfl).read ?_
  refine Sq.quiet (i := 1) rfl (Want.none rfl) rfl (ltN rfl) (QP.move rfl rfl).read ?_
  refine Sq.quiet (i := 2) rfl (Want.none rfl) rfl (ltN rfl) (QP.nilCheck rfl rfl).read ?_
  refine Sq.quiet (i := 3) rfl (Want.none rfl) rfl (ltN rfl) (QP.fieldAddr rfl rfl f37_6).read ?_
  refine Sq.quiet (i := 4) rfl (Want.none rfl) rfl (ltN rfl) (QR.load1 rfl rfl g35 (Route.sub_metric _)) ?_
  refine Sq.quiet (i := 5) rfl (Want.none rfl) rfl (ltN rfl) (QP.neq rfl rfl rfl).read ?_
  refine J.caseD (fun c27 => ?_) (fun c27 => ?_)
  ·skip
   refine Sq.nil ?_
   refine hk13 _ _ ?_
   refine Run.cond_t rfl ?_
   refine Run.region ?_
   show Sq _ _ _ [0, 1, 2, 3, 4, 5, 6, 7] _ _ _ _
   refine Sq.quiet (i := 0) rfl (Want.none rfl) rfl (ltN rfl) (QP.move rfl rfl).read ?_
   refine Sq.quiet (i := 1) rfl (Want.none rfl) rfl (ltN rfl) (QP.move rfl rfl).read ?_
   refine Sq.quiet (i := 2) rfl (Want.none rfl) rfl (ltN rfl) (QP.nilCheck rfl rfl).read ?_
   refine Sq.quiet (i := 3) rfl (Want.none rfl) rfl (ltN rfl) (QP.fieldAddr rfl rfl f37_0).read ?_
   refine Sq.quiet (i := 4) rfl (Want.none rfl) rfl (ltN rfl) (QR.load rfl rfl g32 (Route.sub_pair _)) ?_
   refine Sq.eff (i := 5) rfl (Want.none rfl) rfl (ltN rfl) (EF.buildSlice1 rfl Try.underlying43 z32 zero32 (by simp [Value.cells, Pair.enc_len]) (by decide) rfl rfl (Pair.enc_len _) (by decide)) ?_
   rintro _ _ ⟨b33, rfl, rfl⟩
   refine Sq.eff (i := 6) rfl (Want.none rfl) rfl (ltN rfl) (EF.append1 (xs := (((es.take i).filter fun e => newM e.2.2).map fun e => e.2.2.pair)) (s := _) el32 Pair.enc_len Pair.enc_cell rfl rfl rfl Try.underlying43 Try.underlying43 rfl rfl (by repeat constructor) (by repeat constructor) (by first | omega | (simp <;> omega))) ?_
   rintro sl34 _ rfl
   refine Sq.quiet (i := 7) rfl (Want.none rfl) rfl (ltN rfl) (QP.assign rfl rfl).read ?_
   refine Sq.nil ?_
   refine hk12 _ _ ?_
   refine Run.region ?_
   show Sq _ _ _ [0, 1, 2, 3, 4] _ _ _ _
   refine Sq.quiet (i := 0) rfl (Want.none rfl) rfl (ltN rfl) (QP.move rfl rfl).read ?_
   refine Sq.quiet (i := 1) rfl (Want.none rfl) rfl (ltN rfl) (QP.move rfl rfl).read ?_
   refine Sq.quiet (i := 2) rfl (Want.none rfl) rfl (ltN rfl) (QP.nilCheck rfl rfl).read ?_
   refine Sq.quiet (i := 3) rfl (Want.none rfl) rfl (ltN rfl) (QP.fieldAddr rfl rfl f37_6).read ?_
   refine Sq.act (i := 4) rfl (Want.none rfl) rfl (EF.store rfl rfl rfl z35 (Route.set_metric _ _) (cell_one rfl)) ?_
   rintro _ _ rfl
   generalize hs1 : ({ e.2.2 with metric := plusF e.2.2 } : Route) = s1
   refine Sq.nil ?_
   refine hk9 _ _ ?_
   refine Run.region ?_
   show Sq _ _ _ [0, 1] _ _ _ _
   have hnm : newM e.2.2 = true := decide_eq_true c27
   have hst := step_some (g := recG) (E := E) hi (show recG e.2.2 = some s1 from by unfold recG recR; rw [hs1])
   refine Sq.close (A := rowsA Route.enc 37 (stepE (recG) E (es.take (i + 1)))) (m := [blk e.2.1 (Route.enc s1) 37, rowsA Route.enc 37 (adel (stepE (recG) E (es.take i)) e.1)]) (.cons (by repeat constructor) (.cons (by repeat constructor) Takes.nil)) (fun _ g => by rw [hst]; exact rowsA_close hlook g) ?_
   have hx1 := fm_succ (fun e : RouteKey × (Nat × Route) => newM e.2.2) (fun e => e.2.2.pair) hi
   rw [hnm] at hx1
   simp only [if_true, if_false, Bool.false_eq_true, List.append_nil] at hx1
   refine Sq.slEq (v := sl34) (by repeat constructor) hx1.symm ?_
   refine Sq.quiet (i := 0) rfl (Want.none rfl) rfl (ltN rfl) (QP.add64 rfl rfl rfl (by first | omega | (simp <;> omega)) (by first | omega | (simp <;> omega))).read ?_
   refine Sq.quiet (i := 1) rfl (Want.none rfl) rfl (ltN rfl) (QP.move rfl rfl).read ?_
   refine Sq.nil ?_
   exact J.envJ (J.keep (.cons (by repeat constructor) (.cons (by repeat constructor) (.cons (by repeat constructor) (.cons (by repeat constructor) (.cons (by repeat constructor) Takes.nil))))) (hl6 (i + 1) (Pm) (sl34) (⟨by omega, by rw [hst, ptrs_step hlook]; exact hPm⟩) (by omega))) ⟨rfl, rfl, rfl, rfl, rfl, rfl, trivial⟩
  ·skip
   refine Sq.nil ?_
   refine hk13 _ _ ?_
   refine Run.cond_f rfl ?_
   refine Run.skip ?_
   refine hk12 _ _ ?_
   refine Run.region ?_
   show Sq _ _ _ [0, 1, 2, 3, 4] _ _ _ _
   refine Sq.quiet (i := 0) rfl (Want.none rfl) rfl (ltN rfl) (QP.move rfl rfl).read ?_
   refine Sq.quiet (i := 1) rfl (Want.none rfl) rfl (ltN rfl) (QP.move rfl rfl).read ?_
   refine Sq.quiet (i := 2) rfl (Want.none rfl) rfl (ltN rfl) (QP.nilCheck rfl rfl).read ?_
   refine Sq.quiet (i := 3) rfl (Want.none rfl) rfl (ltN rfl) (QP.fieldAddr rfl rfl f37_6).read ?_
   refine Sq.act (i := 4) rfl (Want.none rfl) rfl (EF.store rfl rfl rfl z35 (Route.set_metric _ _) (cell_one rfl)) ?_
   rintro _ _ rfl
   generalize hs1 : ({ e.2.2 with metric := plusF e.2.2 } : Route) = s1
   refine Sq.nil ?_
   refine hk9 _ _ ?_
   refine Run.region ?_
   show Sq _ _ _ [0, 1] _ _ _ _
   have hnm : newM e.2.2 = false := decide_eq_false c27
   have hst := step_some (g := recG) (E := E) hi (show recG e.2.2 = some s1 from by unfold recG recR; rw [hs1])
   refine Sq.close (A := rowsA Route.enc 37 (stepE (recG) E (es.take (i + 1)))) (m := [blk e.2.1 (Route.enc s1) 37, rowsA Route.enc 37 (adel (stepE (recG) E (es.take i)) e.1)]) (.cons (by repeat constructor) (.cons (by repeat constructor) Takes.nil)) (fun _ g => by rw [hst]; exact rowsA_close hlook g) ?_
   have hx1 := fm_succ (fun e : RouteKey × (Nat × Route) => newM e.2.2) (fun e => e.2.2.pair) hi
   rw [hnm] at hx1
   simp only [if_true, if_false, Bool.false_eq_true, List.append_nil] at hx1
   refine Sq.slEq (v := va) (by repeat constructor) hx1.symm ?_
   refine Sq.quiet (i := 0) rfl (Want.none rfl) rfl (ltN rfl) (QP.add64 rfl rfl rfl (by first | omega | (simp <;> omega)) (by first | omega | (simp <;> omega))).read ?_
   refine Sq.quiet (i := 1) rfl (Want.none rfl) rfl (ltN rfl) (QP.move rfl rfl).read ?_
   refine Sq.nil ?_
   exact J.envJ (J.keep (.cons (by repeat constructor) (.cons (by repeat constructor) (.cons (by repeat constructor) (.cons (by repeat constructor) (.cons (by repeat constructor) Takes.nil))))) (hl6 (i + 1) (Pm) (va) (⟨by omega, by rw [hst, ptrs_step hlook]; exact hPm⟩) (by omega))) ⟨rfl, rfl, rfl, rfl, rfl, rfl, trivial⟩
 ·skip
  refine Sq.nil ?_
  refine hk7 _ _ ?_
  refine Run.seq fun k14 hk14 => ?_
  refine Run.cond_f rfl ?_
  refine Run.exit rfl ?_
  refine hk4 _ _ ?_
  refine Run.seq fun k15 hk15 => ?_
  refine Run.region ?_
  show Sq _ _ _ [0, 1, 2] _ _ _ _
  have hty : es.take i = es := List.take_of_length_le (by omega)
  rw [hty] at hPm
  subst hPm
  rw [hty]
  refine Sq.slCase (v := va) (xs := (es.filter fun e => newM e.2.2).map fun e => e.2.2.pair) (by repeat constructor) (fun av cv hva hhv => ?_)
  subst hva
  refine Sq.quiet (i := 0) rfl (Want.none rfl) rfl (ltN rfl) (QP.move rfl rfl).read ?_
  refine Sq.eff (i := 1) rfl (Want.none rfl) rfl (ltN rfl) (EF.call rfl ce36 rfl (.cons (by repeat constructor) Takes.nil) (fun F' hle hr => compactP F' (xs := ((es.filter fun e => newM e.2.2).map fun e => e.2.2.pair)) (by rw [List.length_map]; have := List.length_filter_le (fun e => newM e.2.2) es; omega))) ?_
  rintro _ _ ⟨_, ⟨rfl, rfl⟩, rfl⟩
  refine J.app ?_
  refine Sq.quiet (i := 2) rfl (Want.none rfl) rfl (ltN rfl) (QP.assign rfl rfl).read ?_
  refine Sq.nil ?_
  refine hk15 _ _ ?_
  refine Run.ret ?_
  exact J.ends (res_tmp rfl rfl) (.cons (by repeat constructor) (.cons (by repeat constructor) (.cons (by repeat constructor) (.cons (by repeat constructor) Takes.nil)))) ⟨r, E, es, _, _, hv, hn, hp, hs, rfl, rfl⟩

theorem reckonT (F : Fr) {b : Nat} {most : Int} {M : TabR} (hk : KeyedR M) (hM : M.length ≤ 1000000) (hh0 : HoldR M) :
    Spec Try.prog 13 #[.pointer (some ⟨b, 0, none⟩), .func (.func 14) #[] #[]] [RTab b most M] F
    fun v S => ∃ L, OrdR M L ∧ S = [RTab b most (mapM recR M), slA 32 34 Pair.enc v (compL ((L.filter newM).map Route.pair))] :=
  (reckonAll F hM hh0).post fun v S w ⟨r, E, es, a, c, hv, hn, hp, hs, h1, h2⟩ s => by
    have hO : OrdR M (es.map (fun e => e.2.2)) := ord_of hk (by rw [← hv, vals, List.map_map]; exact hn) (by rw [← hv, vals, List.map_map]; exact hp.map _) (List.pairwise_map.2 hs)
    have e1 : ((es.filter fun e => newM e.2.2).map fun e => e.2.2.pair) = ((es.map (fun e => e.2.2)).filter newM).map Route.pair := by
      rw [List.filter_map, List.map_map]; rfl
    rw [e1] at h1 h2
    rw [← h1] at h2
    refine ⟨_, ⟨_, hO, rfl⟩, ?_⟩
    subst h2
    refine s.pack (r := [slA 32 34 Pair.enc v (compL (((es.map (fun e : RouteKey × (Nat × Route) => e.2.2)).filter newM).map Route.pair))]) (m := [blk b (RouteTable.enc ⟨most, some r⟩) 76, mapR r (ptrs (stepE recG E es)), rowsA Route.enc 37 (stepE recG E es)]) fun p g => GTab.close ?_ g
    rw [stepE_vals hn hp, hv]
    exact filterMap_some _ _
theorem reckonedM (s : Route) : newM (recR s) = false := decide_eq_false fun h => h rfl
theorem rec_twice (M : TabR) : mapM recR (mapM recR M) = mapM recR M := by
  simp only [mapM, List.map_map]
  rfl
theorem reckonAgain (F : Fr) {b : Nat} {most : Int} {M : TabR} (hk : KeyedR (mapM recR M)) (hM : M.length ≤ 1000000) (hh0 : HoldR (mapM recR M)) :
    Spec Try.prog 13 #[.pointer (some ⟨b, 0, none⟩), .func (.func 14) #[] #[]] [RTab b most (mapM recR M)] F
    fun v S => S = [RTab b most (mapM recR M), slA 32 34 Pair.enc v []] :=
  (reckonT F hk (by rw [mapM_len]; exact hM) hh0).mono fun v S ⟨L, hO, h2⟩ => by
    have h3 : L.filter newM = [] := List.filter_eq_nil_iff.2 fun s hs => by
      obtain ⟨e, he, rfl⟩ := List.mem_map.1 (hO.perm.subset hs)
      obtain ⟨e', _, rfl⟩ := List.mem_map.1 he
      simp [reckonedM]
    rw [h3, rec_twice] at h2
    exact h2
theorem rec_metric {M : TabR} {L : List Route} (h : OrdR (mapM recR M) L) {y : Route} (hy : y ∈ L) : y.metric = plusF y := by
  obtain ⟨e, he, rfl⟩ := List.mem_map.1 (h.perm.subset hy)
  obtain ⟨e', _, rfl⟩ := List.mem_map.1 he
  rfl
theorem good_rec {now mx : Int} {M : TabR} (h : GoodR now mx M) : GoodR now mx (mapM recR M) := by
  refine ⟨fun e he => ?_, fun e he => ?_, fun e he => ?_⟩
  all_goals obtain ⟨e', he', rfl⟩ := List.mem_map.1 he
  · exact h.keyed e' he'
  · exact h.hold e' he'
  · exact h.till e' he'
end Slb
