/- R13: a part of the proof that a law of this package holds for every input; no condition. -/
import Derived.Test.YtfjmefldilponaaR12
namespace Slb
open Go Go.Proofs
set_option maxRecDepth 20000
theorem law_reckons (F : Fr) {a : Option Addr} {xs : List Law16Act} {c : Nat} (hlen : xs.length ≤ 9223372036854775807) (ha : ArgSl F a 84 Law16Act.enc xs)  : Spec Try.prog 3 #[.slice a xs.length c] [] F (fun v S => v = .bool true ∧ S = []) := by
  refine Spec.intro (N := 72) (args := [.slice a xs.length c]) Try.func3 rfl rfl (by simp) ?_
  refine Run.seq fun k1 hk1 => ?_
  refine Run.region ?_
  show Sq _ _ _ [0] _ _ _ _
  refine Sq.quiet (i := 0) rfl (Want.none rfl) rfl (ltN rfl) (QP.assign rfl rfl).read ?_
  refine Sq.nil ?_
  refine hk1 _ _ ?_
  refine Run.seq fun k2 hk2 => ?_
  refine Run.seq fun k3 hk3 => ?_
  refine Run.region ?_
  show Sq _ _ _ [0, 1, 2] _ _ _ _
  refine Sq.quiet (i := 0) rfl (Want.none rfl) rfl (ltN rfl) (QP.move rfl rfl).read ?_
  refine Sq.eff (i := 1) rfl (Want.none rfl) rfl (ltN rfl) (EF.call rfl ce9 rfl Takes.nil (fun F' hle hr => right_spec F' hlen (ha.mono hle))) ?_
  rintro _ _ ⟨_, ⟨rfl, r, rfl, hright⟩, rfl⟩
  refine J.app ?_
  refine J.caseB (fun c8 => ?_) (fun c8 => ?_)
  · skip
    refine Sq.quiet (i := 2) rfl (Want.none rfl) rfl (ltN rfl) (QP.not rfl rfl).read ?_
    refine Sq.nil ?_
    refine hk3 _ _ ?_
    refine Run.cond_f rfl ?_
    refine Run.skip ?_
    refine hk2 _ _ ?_
    refine Run.seq fun k4 hk4 => ?_
    refine Run.region ?_
    show Sq _ _ _ [0, 1] _ _ _ _
    obtain ⟨hl150, hgap⟩ := hright c8
    refine Sq.eff (i := 0) rfl (Want.none rfl) rfl (ltN rfl) (EF.call rfl ce11 rfl Takes.nil (fun F' hle hr => newT F' _)) ?_
    rintro _ _ ⟨_, ⟨bt, rfl, rfl⟩, rfl⟩
    refine J.app ?_
    refine Sq.quiet (i := 1) rfl (Want.none rfl) rfl (ltN rfl) (QP.assign rfl rfl).read ?_
    refine Sq.nil ?_
    refine hk4 _ _ ?_
    refine Run.seq fun k5 hk5 => ?_
    refine Run.seq fun k6 hk6 => ?_
    refine Run.region ?_
    show Sq _ _ _ [0, 1] _ _ _ _
    refine Sq.quiet (i := 0) rfl (Want.none rfl) rfl (ltN rfl) (QP.move rfl rfl).read ?_
    refine Sq.quiet (i := 1) rfl (Want.none rfl) rfl (ltN rfl) (QP.ptr_eq_nil rfl rfl rfl Try.underlying25).read ?_
    refine Sq.nil ?_
    refine hk6 _ _ ?_
    refine Run.cond_f rfl ?_
    refine Run.skip ?_
    refine hk5 _ _ ?_
    refine Run.seq fun k7 hk7 => ?_
    refine Run.seq fun k8 hk8 => ?_
    refine Run.region ?_
    show Sq _ _ _ [0] _ _ _ _
    refine Sq.quiet (i := 0) rfl (Want.none rfl) rfl (ltN rfl) (QP.assign rfl rfl).read ?_
    refine Sq.nil ?_
    refine hk8 _ _ ?_
    refine Run.block ?_
    refine Run.loop2 (fun (i : Nat) (M : TabR) => i ≤ xs.length ∧ GoodR 0 2147483648 M ∧ M.length ≤ i) (fun i M => .cons 0 (.slice a xs.length c) (.cons 3 (.pointer (some ⟨bt, 0, none⟩)) (.cons 4 (.int .i64 i) (.nil)))) (fun i M => [RTab bt 150 M]) (fun i M => xs.length - i) (0) ([]) (⟨Nat.zero_le _, GoodR.nil _ _, Nat.le_refl _⟩) ?_ ?_
    · exact fun _ j => J.envJ (J.keep (.cons (by repeat (first | exact Pick.head | apply Pick.tail)) Takes.nil) j) ⟨rfl, rfl, rfl, trivial⟩
    rintro i M ⟨hile, hgood, hML⟩ kl9 hl9
    refine Run.seq fun k10 hk10 => ?_
    refine Run.seq fun k11 hk11 => ?_
    refine Run.region ?_
    show Sq _ _ _ [0, 1, 2, 3] _ _ _ _
    refine Sq.quiet (i := 0) rfl (Want.none rfl) rfl (ltN rfl) (QP.move rfl rfl).read ?_
    refine Sq.quiet (i := 1) rfl (Want.none rfl) rfl (ltN rfl) (QP.move rfl rfl).read ?_
    refine Sq.quiet (i := 2) rfl (Want.none rfl) rfl (ltN rfl) (QP.len rfl rfl rfl Try.underlying22).read ?_
    refine Sq.quiet (i := 3) rfl (Want.none rfl) rfl (ltN rfl) (QP.lss rfl rfl rfl).read ?_
    refine J.caseD (fun c17 => ?_) (fun c17 => ?_)
    · skip
      refine Sq.nil ?_
      refine hk11 _ _ ?_
      refine Run.cond_t rfl ?_
      refine Run.skip ?_
      refine hk10 _ _ ?_
      refine Run.seq fun k12 hk12 => ?_
      refine Run.block ?_
      refine Run.seq fun k13 hk13 => ?_
      refine Run.region ?_
      show Sq _ _ _ [0, 1, 2, 3, 4, 5] _ _ _ _
      have hlt : i < xs.length := by omega
      obtain ⟨x, hi⟩ : ∃ x, xs[i]? = some x := ⟨_, List.getElem?_eq_getElem hlt⟩
      obtain ⟨b0, o0, rfl, hs0⟩ := ha.get (by omega)
      have hg := hgap x (List.mem_of_getElem? hi)
      unfold okGap at hg
      refine Sq.quiet (i := 0) rfl (Want.none rfl) rfl (ltN rfl) (QP.move rfl rfl).read ?_
      refine Sq.quiet (i := 1) rfl (Want.none rfl) rfl (ltN rfl) (QP.move rfl rfl).read ?_
      refine Sq.quiet (i := 2) rfl (Want.none rfl) rfl (ltN rfl) (QP.indexAddr rfl rfl rfl Try.underlying22 z39 (by first | omega | (simp <;> omega)) (by first | omega | (simp <;> omega))).read ?_
      refine Sq.quiet (i := 3) rfl (Want.none rfl) rfl (ltN rfl) (QP.fieldAddr rfl rfl f39_0).read ?_
      refine Sq.quiet (i := 4) rfl (Want.none rfl) rfl (ltN rfl) (QR.loadSlF1 rfl rfl g3 Law16Act.enc_len (hs0 _) hi (Law16Act.sub_kind _)) ?_
      refine Sq.quiet (i := 5) rfl (Want.none rfl) rfl (ltN rfl) (QP.eql rfl rfl rfl).read ?_
      refine J.caseD (fun c25 => ?_) (fun c25 => ?_)
      · skip
        refine Sq.nil ?_
        refine hk13 _ _ ?_
        refine Run.cond_t rfl ?_
        refine Run.regionD (M := [0, 0, 0, 6, 14, 30, 0, 0, 192, 448, 960, 2047]) (q := 2047) (r := 1056) (by kernel_rfl) ?_
        refine Dw.pure (i := 0) rfl (by kernel_rfl) (Want.none rfl) rfl (ltN rfl) (QP.move rfl rfl) ?_
        refine Dw.pure (i := 1) rfl (by kernel_rfl) (Want.none rfl) rfl (ltN rfl) (QP.move rfl rfl) ?_
        refine Dw.pure (i := 2) rfl (by kernel_rfl) (Want.none rfl) rfl (ltN rfl) (QP.move rfl rfl) ?_
        refine Dw.pure (i := 3) rfl (by kernel_rfl) (Want.none rfl) rfl (ltN rfl) (QP.indexAddr rfl rfl rfl Try.underlying22 z39 (by first | omega | (simp <;> omega)) (by first | omega | (simp <;> omega))) ?_
        refine Dw.pure (i := 4) rfl (by kernel_rfl) (Want.none rfl) rfl (ltN rfl) (QP.fieldAddr rfl rfl f39_2) ?_
        refine Dw.read (i := 5) rfl (by kernel_rfl) (Want.none rfl) rfl (ltN rfl) (QR.loadSlF rfl rfl g37 Law16Act.enc_len (hs0 _) hi (Law16Act.sub_r _)) ?_
        refine Dw.pure (i := 6) rfl (by kernel_rfl) (Want.none rfl) rfl (ltN rfl) (QP.move rfl rfl) ?_
        refine Dw.pure (i := 7) rfl (by kernel_rfl) (Want.none rfl) rfl (ltN rfl) (QP.move rfl rfl) ?_
        refine Dw.pure (i := 8) rfl (by kernel_rfl) (Want.none rfl) rfl (ltN rfl) (QP.indexAddr rfl rfl rfl Try.underlying22 z39 (by first | omega | (simp <;> omega)) (by first | omega | (simp <;> omega))) ?_
        refine Dw.pure (i := 9) rfl (by kernel_rfl) (Want.none rfl) rfl (ltN rfl) (QP.fieldAddr rfl rfl f39_3) ?_
        refine Dw.read (i := 10) rfl (by kernel_rfl) (Want.none rfl) rfl (ltN rfl) (QR.loadSlF1 rfl rfl g4 Law16Act.enc_len (hs0 _) hi (Law16Act.sub_ok _)) ?_
        refine Dw.eff (i := 11) (by kernel_rfl) (by kernel_rfl) ?_
        refine One.mk (o := _) (l := []) rfl (by kernel_rfl) (Want.none rfl) rfl (ltN rfl) (EF.call rfl ce12 rfl (.cons (by repeat (first | exact Pick.head | apply Pick.tail)) Takes.nil) (fun F' hle hr => tellT F' 0 (by omega) (by omega) x.r x.ok (fun e he => ⟨(hgood.hold e he).1, by have := (hgood.hold e he).2; omega⟩))) (by kernel_rfl) ?_
        rintro _ _ ⟨_, ⟨rfl, rfl⟩, rfl⟩
        refine ⟨fun _ h => (by cases h), ?_⟩
        refine J.app ?_
        refine Dw.nil (by kernel_rfl) ?_
        refine hk12 _ _ ?_
        refine Run.region ?_
        show Sq _ _ _ [0, 1, 2] _ _ _ _
        refine Sq.quiet (i := 0) rfl (Want.none rfl) rfl (ltN rfl) (QP.move rfl rfl).read ?_
        refine Sq.quiet (i := 1) rfl (Want.none rfl) rfl (ltN rfl) (QP.add64 rfl rfl rfl (by first | omega | (simp <;> omega)) (by first | omega | (simp <;> omega))).read ?_
        refine Sq.quiet (i := 2) rfl (Want.none rfl) rfl (ltN rfl) (QP.assign rfl rfl).read ?_
        refine Sq.nil ?_
        exact J.envJ (J.keep (.cons (by repeat (first | exact Pick.head | apply Pick.tail)) Takes.nil) (hl9 (i + 1) ((tellF 150 M 0 x.r x.ok).2.2) (⟨by omega, (good_tell hgood (by omega) x.r x.ok (by split <;> omega)).1, Nat.le_trans (good_tell hgood (by omega) x.r x.ok (by split <;> omega)).2 (by omega)⟩) (by omega))) ⟨rfl, rfl, rfl, trivial⟩
      · skip
        refine Sq.nil ?_
        refine hk13 _ _ ?_
        refine Run.cond_f rfl ?_
        refine Run.skip ?_
        refine hk12 _ _ ?_
        refine Run.region ?_
        show Sq _ _ _ [0, 1, 2] _ _ _ _
        refine Sq.quiet (i := 0) rfl (Want.none rfl) rfl (ltN rfl) (QP.move rfl rfl).read ?_
        refine Sq.quiet (i := 1) rfl (Want.none rfl) rfl (ltN rfl) (QP.add64 rfl rfl rfl (by first | omega | (simp <;> omega)) (by first | omega | (simp <;> omega))).read ?_
        refine Sq.quiet (i := 2) rfl (Want.none rfl) rfl (ltN rfl) (QP.assign rfl rfl).read ?_
        refine Sq.nil ?_
        exact J.envJ (J.keep (.cons (by repeat (first | exact Pick.head | apply Pick.tail)) Takes.nil) (hl9 (i + 1) (M) (⟨by omega, hgood, by omega⟩) (by omega))) ⟨rfl, rfl, rfl, trivial⟩
    · skip
      refine Sq.nil ?_
      refine hk11 _ _ ?_
      refine Run.cond_f rfl ?_
      refine Run.exit rfl ?_
      refine hk7 _ _ ?_
      refine Run.seq fun k14 hk14 => ?_
      refine Run.region ?_
      show Sq _ _ _ [0, 1] _ _ _ _
      have hMn : M.length ≤ 1000000 := by omega
      have hH : HoldR M := hgood.hold
      refine Sq.quiet (i := 0) rfl (Want.none rfl) rfl (ltN rfl) (QP.move rfl rfl).read ?_
      refine Sq.eff (i := 1) rfl (Want.none rfl) rfl (ltN rfl) (EF.call rfl ce13 rfl (.cons (by repeat (first | exact Pick.head | apply Pick.tail)) Takes.nil) (fun F' hle hr => reckonT F' hgood.keyed hMn hH)) ?_
      rintro v39 _ ⟨_, ⟨L39, hL39, rfl⟩, rfl⟩
      refine J.app ?_
      refine Sq.nil ?_
      refine hk14 _ _ ?_
      refine Run.seq fun k15 hk15 => ?_
      refine Run.region ?_
      show Sq _ _ _ [0, 1, 2] _ _ _ _
      refine Sq.quiet (i := 0) rfl (Want.none rfl) rfl (ltN rfl) (QP.move rfl rfl).read ?_
      refine Sq.eff (i := 1) rfl (Want.none rfl) rfl (ltN rfl) (EF.call rfl ce15 rfl (.cons (by repeat (first | exact Pick.head | apply Pick.tail)) Takes.nil) (fun F' hle hr => listT F' (good_rec hgood).keyed (by rw [mapM_len]; exact hMn))) ?_
      rintro v41 _ ⟨_, ⟨L41, hL41, rfl⟩, rfl⟩
      refine J.app ?_
      refine Sq.slCase (v := v41) (xs := L41) (by repeat (first | exact List.Mem.head _ | apply List.Mem.tail)) (fun a41 c41 hv41 hh41 => ?_)
      subst hv41
      have hLl : L41.length ≤ 150 := by rw [hL41.length, mapM_len]; omega
      refine Sq.quiet (i := 2) rfl (Want.none rfl) rfl (ltN rfl) (QP.assign rfl rfl).read ?_
      refine Sq.nil ?_
      refine hk15 _ _ ?_
      refine Run.seq fun k16 hk16 => ?_
      refine Run.seq fun k17 hk17 => ?_
      refine Run.region ?_
      show Sq _ _ _ [0] _ _ _ _
      refine Sq.quiet (i := 0) rfl (Want.none rfl) rfl (ltN rfl) (QP.assign rfl rfl).read ?_
      refine Sq.nil ?_
      refine hk17 _ _ ?_
      refine Run.block ?_
      refine Run.loop1 (fun (i : Nat) => i ≤ L41.length) (fun i => .cons 3 (.pointer (some ⟨bt, 0, none⟩)) (.cons 5 (.slice a41 L41.length c41) (.cons 6 (.int .i64 i) (.nil)))) (fun i => [RTab bt 150 (mapM recR M), slA 37 81 Route.enc (.slice a41 L41.length c41) L41]) (fun i => L41.length - i) (0) (Nat.zero_le _) ?_ ?_
      · exact fun _ j => J.envJ (J.keep (.cons (by repeat (first | exact Pick.head | apply Pick.tail)) (.cons (by repeat (first | exact Pick.head | apply Pick.tail)) Takes.nil)) j) ⟨rfl, rfl, rfl, trivial⟩
      rintro i hile2 kl18 hl18
      refine Run.seq fun k19 hk19 => ?_
      refine Run.seq fun k20 hk20 => ?_
      refine Run.region ?_
      show Sq _ _ _ [0, 1, 2, 3] _ _ _ _
      refine Sq.quiet (i := 0) rfl (Want.none rfl) rfl (ltN rfl) (QP.move rfl rfl).read ?_
      refine Sq.quiet (i := 1) rfl (Want.none rfl) rfl (ltN rfl) (QP.move rfl rfl).read ?_
      refine Sq.quiet (i := 2) rfl (Want.none rfl) rfl (ltN rfl) (QP.len rfl rfl rfl Try.underlying46).read ?_
      refine Sq.quiet (i := 3) rfl (Want.none rfl) rfl (ltN rfl) (QP.lss rfl rfl rfl).read ?_
      refine J.caseD (fun c45 => ?_) (fun c45 => ?_)
      · skip
        refine Sq.nil ?_
        refine hk20 _ _ ?_
        refine Run.cond_t rfl ?_
        refine Run.skip ?_
        refine hk19 _ _ ?_
        refine Run.seq fun k21 hk21 => ?_
        refine Run.block ?_
        refine Run.seq fun k22 hk22 => ?_
        refine Run.regionD (M := [0, 0, 3, 7, 15, 0, 0, 96, 224, 480, 1023]) (q := 1535) (r := 272) (by kernel_rfl) ?_
        have hlt : i < L41.length := by omega
        obtain ⟨y, hy⟩ : ∃ y, L41[i]? = some y := ⟨_, List.getElem?_eq_getElem hlt⟩
        obtain ⟨b1, o1, rfl⟩ := hh41.get (by omega)
        have hym := rec_metric hL41 (List.mem_of_getElem? hy)
        refine Dw.pure (i := 0) rfl (by kernel_rfl) (Want.none rfl) rfl (ltN rfl) (QP.move rfl rfl) ?_
        refine Dw.pure (i := 1) rfl (by kernel_rfl) (Want.none rfl) rfl (ltN rfl) (QP.move rfl rfl) ?_
        refine Dw.pure (i := 2) rfl (by kernel_rfl) (Want.none rfl) rfl (ltN rfl) (QP.indexAddr rfl rfl rfl Try.underlying46 z37 (by first | omega | (simp <;> omega)) (by first | omega | (simp <;> omega))) ?_
        refine Dw.pure (i := 3) rfl (by kernel_rfl) (Want.none rfl) rfl (ltN rfl) (QP.fieldAddr rfl rfl f37_6) ?_
        refine Dw.read (i := 4) rfl (by kernel_rfl) (Want.none rfl) rfl (ltN rfl) (QR.loadSlF1 rfl rfl g35 Route.enc_len (SlAt.own Route.enc_len (by repeat (first | exact List.Mem.head _ | apply List.Mem.tail))) hy (Route.sub_metric _)) ?_
        refine Dw.pure (i := 5) rfl (by kernel_rfl) (Want.none rfl) rfl (ltN rfl) (QP.move rfl rfl) ?_
        refine Dw.pure (i := 6) rfl (by kernel_rfl) (Want.none rfl) rfl (ltN rfl) (QP.move rfl rfl) ?_
        refine Dw.pure (i := 7) rfl (by kernel_rfl) (Want.none rfl) rfl (ltN rfl) (QP.indexAddr rfl rfl rfl Try.underlying46 z37 (by first | omega | (simp <;> omega)) (by first | omega | (simp <;> omega))) ?_
        refine Dw.read (i := 8) rfl (by kernel_rfl) (Want.none rfl) rfl (ltN rfl) (QR.loadSl rfl rfl g37 Route.enc_len (SlAt.own Route.enc_len (by repeat (first | exact List.Mem.head _ | apply List.Mem.tail))) hy) ?_
        refine Dw.eff (i := 9) (by kernel_rfl) (by kernel_rfl) ?_
        refine One.mk (o := _) (l := [4]) rfl (by kernel_rfl) (Want.none rfl) rfl (ltN rfl) (EF.call rfl ce14 rfl Takes.nil (fun F' hle hr => plus_spec F' y)) (by kernel_rfl) ?_
        rintro _ _ ⟨_, ⟨rfl, rfl⟩, rfl⟩
        refine ⟨?_, ?_⟩
        · rw [List.forall_mem_cons]
          refine ⟨?_, fun _ h => (by cases h)⟩
          · refine Look.app ?_
            exact Look.mk rfl rfl rfl (QR.loadSlF1 rfl rfl g35 Route.enc_len (SlAt.own Route.enc_len (by repeat (first | exact List.Mem.head _ | apply List.Mem.tail))) hy (Route.sub_metric _))
        refine ?_
        refine J.app ?_
        refine Dw.pure (i := 10) rfl (by kernel_rfl) (Want.none rfl) rfl (ltN rfl) (QP.neq rfl rfl rfl) ?_
        refine J.decF (fun h => h hym) ?_
        refine Dw.nil (by kernel_rfl) ?_
        refine hk22 _ _ ?_
        refine Run.cond_f rfl ?_
        refine Run.skip ?_
        refine hk21 _ _ ?_
        refine Run.region ?_
        show Sq _ _ _ [0, 1, 2] _ _ _ _
        refine Sq.quiet (i := 0) rfl (Want.none rfl) rfl (ltN rfl) (QP.move rfl rfl).read ?_
        refine Sq.quiet (i := 1) rfl (Want.none rfl) rfl (ltN rfl) (QP.add64 rfl rfl rfl (by first | omega | (simp <;> omega)) (by first | omega | (simp <;> omega))).read ?_
        refine Sq.quiet (i := 2) rfl (Want.none rfl) rfl (ltN rfl) (QP.assign rfl rfl).read ?_
        refine Sq.nil ?_
        exact J.envJ (J.keep (.cons (by repeat (first | exact Pick.head | apply Pick.tail)) (.cons (by repeat (first | exact Pick.head | apply Pick.tail)) Takes.nil)) (hl18 (i + 1) (by omega) (by omega))) ⟨rfl, rfl, rfl, trivial⟩
      · skip
        refine Sq.nil ?_
        refine hk20 _ _ ?_
        refine Run.cond_f rfl ?_
        refine Run.exit rfl ?_
        refine hk16 _ _ ?_
        refine Run.seq fun k23 hk23 => ?_
        refine Run.region ?_
        show Sq _ _ _ [0, 1, 2, 3, 4, 5, 6, 7, 8, 9, 10, 11, 12, 13] _ _ _ _
        refine Sq.quiet (i := 0) rfl (Want.none rfl) rfl (ltN rfl) (QP.move rfl rfl).read ?_
        refine Sq.eff (i := 1) rfl (Want.none rfl) rfl (ltN rfl) (EF.call rfl ce13 rfl (.cons (by repeat (first | exact Pick.head | apply Pick.tail)) Takes.nil) (fun F' hle hr => reckonAgain F' (good_rec hgood).keyed hMn (good_rec hgood).hold)) ?_
        rintro v60 _ ⟨_, rfl, rfl⟩
        refine J.app ?_
        refine Sq.slCase (v := v60) (xs := []) (by repeat (first | exact List.Mem.head _ | apply List.Mem.tail)) (fun a60 c60 hv60 hh60 => ?_)
        subst hv60
        refine Sq.quiet (i := 2) rfl (Want.none rfl) rfl (ltN rfl) (QP.len rfl rfl rfl Try.underlying43).read ?_
        refine Sq.quiet (i := 3) rfl (Want.none rfl) rfl (ltN rfl) (QP.eql rfl rfl rfl).read ?_
        refine J.decT (rfl) ?_
        refine Sq.quiet (i := 4) rfl (Want.none rfl) rfl (ltN rfl) (QP.move rfl rfl).read ?_
        refine Sq.quiet (i := 5) rfl (Want.yes rfl rfl rfl rfl) rfl (ltN rfl) (QP.move rfl rfl).read ?_
        refine Sq.eff (i := 6) rfl (Want.yes rfl rfl rfl rfl) rfl (ltN rfl) (EF.call rfl ce15 rfl (.cons (by repeat (first | exact Pick.head | apply Pick.tail)) Takes.nil) (fun F' hle hr => listT F' (good_rec hgood).keyed (by rw [mapM_len]; exact hMn))) ?_
        rintro v65 _ ⟨_, ⟨L65, hL65, rfl⟩, rfl⟩
        refine J.app ?_
        refine Sq.slCase (v := v65) (xs := L65) (by repeat (first | exact List.Mem.head _ | apply List.Mem.tail)) (fun a65 c65 hv65 hh65 => ?_)
        subst hv65
        have hLe : L65 = L41 := ord_ex hL41 hL65
        have hLl2 : L65.length ≤ 150 := by rw [hLe]; exact hLl
        refine Sq.quiet (i := 7) rfl (Want.yes rfl rfl rfl rfl) rfl (ltN rfl) (QP.move rfl rfl).read ?_
        refine Sq.eff (i := 8) rfl (Want.yes rfl rfl rfl rfl) rfl (ltN rfl) (EF.call rfl ce16 rfl (.cons (by repeat (first | exact Pick.head | apply Pick.tail)) (.cons (by repeat (first | exact Pick.head | apply Pick.tail)) Takes.nil)) (fun F' hle hr => sameR F' hh65 hh41 (by omega) (by omega))) ?_
        rintro _ _ ⟨_, ⟨rfl, rfl⟩, rfl⟩
        refine J.app ?_
        refine J.boolT (by rw [hLe]; simp) ?_
        refine Sq.quiet (i := 9) rfl (Want.none rfl) rfl (ltN rfl) (QP.pick_t rfl rfl rfl).read ?_
        refine Sq.quiet (i := 10) rfl (Want.none rfl) rfl (ltN rfl) (QP.move rfl rfl).read ?_
        refine Sq.eff (i := 11) rfl (Want.yes rfl rfl rfl rfl) rfl (ltN rfl) (EF.call rfl ce10 rfl Takes.nil (fun F' hle hr => live_spec F')) ?_
        rintro _ _ ⟨_, ⟨rfl, rfl⟩, rfl⟩
        refine J.app ?_
        refine Sq.quiet (i := 12) rfl (Want.none rfl) rfl (ltN rfl) (QP.pick_t rfl rfl rfl).read ?_
        refine Sq.quiet (i := 13) rfl (Want.none rfl) rfl (ltN rfl) (QP.assign rfl rfl).read ?_
        refine Sq.nil ?_
        refine hk23 _ _ ?_
        refine Run.ret ?_
        exact J.ends (res_tmp rfl rfl) Takes.nil ⟨rfl, rfl⟩
  · skip
    refine Sq.quiet (i := 2) rfl (Want.none rfl) rfl (ltN rfl) (QP.not rfl rfl).read ?_
    refine Sq.nil ?_
    refine hk3 _ _ ?_
    refine Run.cond_t rfl ?_
    refine Run.seq fun k24 hk24 => ?_
    refine Run.region ?_
    show Sq _ _ _ [0, 1] _ _ _ _
    refine Sq.eff (i := 0) rfl (Want.none rfl) rfl (ltN rfl) (EF.call rfl ce10 rfl Takes.nil (fun F' hle hr => live_spec F')) ?_
    rintro _ _ ⟨_, ⟨rfl, rfl⟩, rfl⟩
    refine J.app ?_
    refine Sq.quiet (i := 1) rfl (Want.none rfl) rfl (ltN rfl) (QP.assign rfl rfl).read ?_
    refine Sq.nil ?_
    refine hk24 _ _ ?_
    refine Run.ret ?_
    exact J.ends (res_tmp rfl rfl) Takes.nil ⟨rfl, rfl⟩
end Slb
