/- V12: a part of the proof that a law of this package holds for every input; no condition. -/
import Derived.Test.YtlodieoopchhgaaV11
namespace Slb
open Go Go.Proofs
set_option maxRecDepth 20000
theorem find_some {M : TabM} {L : List Source} (h : OrdS M L) {p : Pair} {id : Bs 8} {s : Source} {n : Int} (h0 : alook M ⟨p, id⟩ = some s) (hf : (n = -1 ∧ ∀ x ∈ L, keyS x ≠ ⟨p, id⟩) ∨ ∃ i x, n = ((i : Nat) : Int) ∧ L[i]? = some x ∧ keyS x = ⟨p, id⟩) : ∃ ky : Nat, n = ky ∧ L[ky]? = some s := by
  obtain ⟨hs, hk⟩ := h.look h0
  rcases hf with ⟨_, hno⟩ | ⟨i, x, rfl, hx, hkx⟩
  · exact absurd hk (hno s hs)
  · have : x = s := h.inj (List.mem_of_getElem? hx) hs (hkx.trans hk.symm)
    subst this
    exact ⟨i, rfl, hx⟩
theorem find_none {M : TabM} {L : List Source} (h : OrdS M L) {p : Pair} {id : Bs 8} {n : Int} (h0 : alook M ⟨p, id⟩ = none) (hf : (n = -1 ∧ ∀ x ∈ L, keyS x ≠ ⟨p, id⟩) ∨ ∃ i x, n = ((i : Nat) : Int) ∧ L[i]? = some x ∧ keyS x = ⟨p, id⟩) : n = -1 := by
  rcases hf with ⟨h1, _⟩ | ⟨i, x, rfl, hx, hkx⟩
  · exact h1
  · exact absurd hkx (h.look_none.1 h0 x (List.mem_of_getElem? hx))

theorem law_plays (F : Fr) (most : Int) {a : Option Addr} {xs : List Law15Act} {c : Nat} (hlen : xs.length ≤ 9223372036854775807) (ha : ArgSl F a 46 Law15Act.enc xs)(hw : ∀ x ∈ xs, x.WF) : Spec Try.prog 6 #[.int .i64 most, .slice a xs.length c] [] F (fun v S => v = .bool true ∧ S = []) := by
  refine Spec.intro (N := 197) (args := [.int .i64 most, .slice a xs.length c]) Try.func6 rfl rfl (by simp) ?_
  refine Run.seq fun k1 hk1 => ?_
  refine Run.region ?_
  show Sq _ _ _ [0] _ _ _ _
  refine Sq.quiet (i := 0) rfl (Want.none rfl) rfl (ltN rfl) (QP.assign rfl rfl).read ?_
  refine Sq.nil ?_
  refine hk1 _ _ ?_
  refine Run.seq fun k2 hk2 => ?_
  refine Run.seq fun k3 hk3 => ?_
  refine Run.region ?_
  show Sq _ _ _ [0, 1, 2, 3, 4, 5, 6] _ _ _ _
  refine Sq.quiet (i := 0) rfl (Want.none rfl) rfl (ltN rfl) (QP.move rfl rfl).read ?_
  refine Sq.eff (i := 1) rfl (Want.none rfl) rfl (ltN rfl) (EF.call rfl ce8 rfl Takes.nil (fun F' hle hr => right_spec F' hlen (ha.mono hle))) ?_
  rintro _ _ ⟨_, ⟨rfl, r, rfl, hright⟩, rfl⟩
  refine J.app ?_
  refine J.caseB (fun c19 => ?_) (fun c19 => ?_)
  · skip
    refine Sq.quiet (i := 2) rfl (Want.none rfl) rfl (ltN rfl) (QP.not rfl rfl).read ?_
    refine Sq.quiet (i := 3) rfl (Want.none rfl) rfl (ltN rfl) (QP.move rfl rfl).read ?_
    refine Sq.quiet (i := 4) rfl (Want.yes rfl rfl rfl rfl) rfl (ltN rfl) (QP.move rfl rfl).read ?_
    refine Sq.quiet (i := 5) rfl (Want.yes rfl rfl rfl rfl) rfl (ltN rfl) (QP.gtr rfl rfl rfl).read ?_
    refine J.caseD (fun c23 => ?_) (fun c23 => ?_)
    · skip
      refine Sq.quiet (i := 6) rfl (Want.none rfl) rfl (ltN rfl) (QP.pick_f rfl rfl rfl).read ?_
      refine Sq.nil ?_
      refine hk3 _ _ ?_
      refine Run.cond_t rfl ?_
      refine Run.seq fun k4 hk4 => ?_
      refine Run.region ?_
      show Sq _ _ _ [0, 1] _ _ _ _
      refine Sq.eff (i := 0) rfl (Want.none rfl) rfl (ltN rfl) (EF.call rfl ce9 rfl Takes.nil (fun F' hle hr => live_spec F')) ?_
      rintro _ _ ⟨_, ⟨rfl, rfl⟩, rfl⟩
      refine J.app ?_
      refine Sq.quiet (i := 1) rfl (Want.none rfl) rfl (ltN rfl) (QP.assign rfl rfl).read ?_
      refine Sq.nil ?_
      refine hk4 _ _ ?_
      refine Run.ret ?_
      exact J.ends (res_tmp rfl rfl) Takes.nil ⟨rfl, rfl⟩
    · skip
      refine Sq.quiet (i := 6) rfl (Want.none rfl) rfl (ltN rfl) (QP.pick_f rfl rfl rfl).read ?_
      refine Sq.nil ?_
      refine hk3 _ _ ?_
      refine Run.cond_f rfl ?_
      refine Run.skip ?_
      refine hk2 _ _ ?_
      refine Run.seq fun k5 hk5 => ?_
      refine Run.region ?_
      show Sq _ _ _ [0, 1, 2] _ _ _ _
      obtain ⟨hl200, hgap⟩ := hright c19
      refine Sq.quiet (i := 0) rfl (Want.none rfl) rfl (ltN rfl) (QP.move rfl rfl).read ?_
      refine Sq.eff (i := 1) rfl (Want.none rfl) rfl (ltN rfl) (EF.call rfl ce10 rfl Takes.nil (fun F' hle hr => newT F' _)) ?_
      rintro _ _ ⟨_, ⟨bt, rfl, rfl⟩, rfl⟩
      refine J.app ?_
      refine Sq.quiet (i := 2) rfl (Want.none rfl) rfl (ltN rfl) (QP.assign rfl rfl).read ?_
      refine Sq.nil ?_
      refine hk5 _ _ ?_
      refine Run.seq fun k6 hk6 => ?_
      refine Run.region ?_
      show Sq _ _ _ [0, 1, 2, 3] _ _ _ _
      refine Sq.quiet (i := 0) rfl (Want.none rfl) rfl (ltN rfl) (QP.move rfl rfl).read ?_
      refine Sq.quiet (i := 1) rfl (Want.none rfl) rfl (ltN rfl) (QP.build (l := Ref15Table.enc ⟨(most), Slc.zero⟩) rfl st56 rfl (by exact ⟨rfl, trivial⟩) rfl).read ?_
      refine Sq.eff (i := 2) rfl (Want.none rfl) rfl (ltN rfl) (EF.boxA rfl rfl) ?_
      rintro _ _ ⟨bw, rfl, rfl⟩
      refine J.addSl 45 45 Source.enc ?_
      refine Sq.quiet (i := 3) rfl (Want.none rfl) rfl (ltN rfl) (QP.assign rfl rfl).read ?_
      refine Sq.nil ?_
      refine hk6 _ _ ?_
      refine Run.seq fun k7 hk7 => ?_
      refine Run.seq fun k8 hk8 => ?_
      refine Run.region ?_
      show Sq _ _ _ [0, 1] _ _ _ _
      refine Sq.quiet (i := 0) rfl (Want.none rfl) rfl (ltN rfl) (QP.move rfl rfl).read ?_
      refine Sq.quiet (i := 1) rfl (Want.none rfl) rfl (ltN rfl) (QP.ptr_eq_nil rfl rfl rfl Try.underlying36).read ?_
      refine Sq.nil ?_
      refine hk8 _ _ ?_
      refine Run.cond_f rfl ?_
      refine Run.skip ?_
      refine hk7 _ _ ?_
      refine Run.seq fun k9 hk9 => ?_
      refine Run.region ?_
      show Sq _ _ _ [0] _ _ _ _
      refine Sq.quiet (i := 0) rfl (Want.none rfl) rfl (ltN rfl) (QP.assign rfl rfl).read ?_
      refine Sq.nil ?_
      refine hk9 _ _ ?_
      refine Run.seq fun k10 hk10 => ?_
      refine Run.seq fun k11 hk11 => ?_
      refine Run.region ?_
      show Sq _ _ _ [0] _ _ _ _
      refine Sq.quiet (i := 0) rfl (Want.none rfl) rfl (ltN rfl) (QP.assign rfl rfl).read ?_
      refine Sq.nil ?_
      refine hk11 _ _ ?_
      refine Run.block ?_
      refine Run.loop6 (fun (i : Nat) (now : Int) (M : TabM) (L : List Source) (al : Option Addr) (cl : Nat) => i ≤ xs.length ∧ 0 ≤ now ∧ now ≤ i * 1073741824 ∧ OrdS M L ∧ (∀ y ∈ L, GoodS now y) ∧ L.length ≤ i ∧ SlH al cl L) (fun i now M L al cl => .cons 1 (.slice a xs.length c) (.cons 5 (.pointer (some ⟨bt, 0, none⟩)) (.cons 6 (.pointer (some ⟨bw, 0, none⟩)) (.cons 7 (.int .i64 now) (.cons 8 (.int .i64 i) (.nil)))))) (fun i now M L al cl => [Tab bt most M, blk bw (Ref15Table.enc ⟨most, ⟨al, L.length, cl⟩⟩) 56, slA 45 45 Source.enc (.slice al L.length cl) L]) (fun i now M L al cl => xs.length - i) (0) (0) ([]) ([]) (none) (0) (⟨Nat.zero_le _, Int.le_refl _, by omega, InOrder.nil, by simp, Nat.le_refl _, .inl ⟨rfl, rfl, rfl⟩⟩) ?_ ?_
      · exact fun _ j => J.envJ (J.keep (.cons (by repeat (first | exact Pick.head | apply Pick.tail)) (.cons (by repeat (first | exact Pick.head | apply Pick.tail)) (.cons (by repeat (first | exact Pick.head | apply Pick.tail)) Takes.nil))) j) ⟨rfl, rfl, rfl, rfl, rfl, trivial⟩
      rintro i now M L al cl ⟨hile, hn0, hn1, hord, hgood, hLi, hh⟩ kl12 hl12
      refine Run.seq fun k13 hk13 => ?_
      refine Run.seq fun k14 hk14 => ?_
      refine Run.region ?_
      show Sq _ _ _ [0, 1, 2, 3] _ _ _ _
      refine Sq.quiet (i := 0) rfl (Want.none rfl) rfl (ltN rfl) (QP.move rfl rfl).read ?_
      refine Sq.quiet (i := 1) rfl (Want.none rfl) rfl (ltN rfl) (QP.move rfl rfl).read ?_
      refine Sq.quiet (i := 2) rfl (Want.none rfl) rfl (ltN rfl) (QP.len rfl rfl rfl Try.underlying22).read ?_
      refine Sq.quiet (i := 3) rfl (Want.none rfl) rfl (ltN rfl) (QP.lss rfl rfl rfl).read ?_
      refine J.caseD (fun c36 => ?_) (fun c36 => ?_)
      · skip
        refine Sq.nil ?_
        refine hk14 _ _ ?_
        refine Run.cond_t rfl ?_
        refine Run.skip ?_
        refine hk13 _ _ ?_
        refine Run.seq fun k15 hk15 => ?_
        refine Run.block ?_
        refine Run.seq fun k16 hk16 => ?_
        refine Run.region ?_
        show Sq _ _ _ [0, 1, 2, 3, 4, 5] _ _ _ _
        have hlt : i < xs.length := by omega
        obtain ⟨x, hi⟩ : ∃ x, xs[i]? = some x := ⟨_, List.getElem?_eq_getElem hlt⟩
        obtain ⟨b0, o0, rfl, hs0⟩ := ha.get (by omega)
        have hg := hgap x (List.mem_of_getElem? hi)
        unfold okGap at hg
        have hxw0 := hw x (List.mem_of_getElem? hi)
        have hxd : x.d.WF := hxw0.2.2.2.2
        obtain ⟨now2, hnow2⟩ : ∃ now2 : Int, now2 = now + x.gap := ⟨_, rfl⟩
        have hnn : 0 ≤ now2 := by omega
        have hn3 : now2 ≤ 1000000000000 := by omega
        have hn2 : now2 ≤ 2305843009213693952 := by omega
        have hLn : L.length ≤ 1000000 := by omega
        have hMn : M.length ≤ 1000000 := by rw [← hord.length]; exact hLn
        replace hgood := fun y hy => (hgood y hy).mono (show now ≤ now2 by omega)
        refine Sq.quiet (i := 0) rfl (Want.none rfl) rfl (ltN rfl) (QP.move rfl rfl).read ?_
        refine Sq.quiet (i := 1) rfl (Want.none rfl) rfl (ltN rfl) (QP.move rfl rfl).read ?_
        refine Sq.quiet (i := 2) rfl (Want.none rfl) rfl (ltN rfl) (QP.indexAddr rfl rfl rfl Try.underlying22 z39 (by first | omega | (simp <;> omega)) (by first | omega | (simp <;> omega))).read ?_
        refine Sq.quiet (i := 3) rfl (Want.none rfl) rfl (ltN rfl) (QR.loadSl rfl rfl g39 Law15Act.enc_len (hs0 _) hi) ?_
        refine Sq.eff (i := 4) rfl (Want.none rfl) rfl (ltN rfl) (EF.allocA (l := Law15Act.enc Law15Act.zero) rfl zero39) ?_
        rintro _ _ ⟨b9, rfl, rfl⟩
        refine Sq.act (i := 5) rfl (Want.none rfl) rfl (EF.storeA rfl rfl rfl z39 (SetL.all (Law15Act.enc_len _) (Law15Act.enc_len _)) (Law15Act.enc_cell _)) ?_
        rintro _ _ rfl
        refine Sq.nil ?_
        refine hk16 _ _ ?_
        refine Run.seq fun k17 hk17 => ?_
        refine Run.region ?_
        show Sq _ _ _ [0, 1, 2, 3, 4] _ _ _ _
        refine Sq.quiet (i := 0) rfl (Want.none rfl) rfl (ltN rfl) (QP.move rfl rfl).read ?_
        refine Sq.quiet (i := 1) rfl (Want.none rfl) rfl (ltN rfl) (QP.fieldAddr rfl rfl f39_1).read ?_
        refine Sq.quiet (i := 2) rfl (Want.none rfl) rfl (ltN rfl) (QR.load1 rfl rfl g3 (Law15Act.sub_gap _)) ?_
        refine Sq.quiet (i := 3) rfl (Want.none rfl) rfl (ltN rfl) (QP.add64 rfl rfl rfl (by first | omega | (simp <;> omega)) (by first | omega | (simp <;> omega))).read ?_
        rw [← hnow2]
        refine Sq.quiet (i := 4) rfl (Want.none rfl) rfl (ltN rfl) (QP.assign rfl rfl).read ?_
        refine Sq.nil ?_
        refine hk17 _ _ ?_
        refine Run.seq fun k18 hk18 => ?_
        refine Run.region ?_
        show Sq _ _ _ [0] _ _ _ _
        refine Sq.quiet (i := 0) rfl (Want.none rfl) rfl (ltN rfl) (QP.assign rfl rfl).read ?_
        refine Sq.nil ?_
        refine hk18 _ _ ?_
        refine Run.seq fun k19 hk19 => ?_
        refine Run.seq fun k20 hk20 => ?_
        refine Run.region ?_
        show Sq _ _ _ [0, 1] _ _ _ _
        refine Sq.quiet (i := 0) rfl (Want.none rfl) rfl (ltN rfl) (QP.fieldAddr rfl rfl f39_0).read ?_
        refine Sq.quiet (i := 1) rfl (Want.none rfl) rfl (ltN rfl) (QR.load1 rfl rfl g3 (Law15Act.sub_kind _)) ?_
        refine Sq.nil ?_
        refine hk20 _ _ ?_
        refine Run.block ?_
        refine Run.seq fun k21 hk21 => ?_
        refine Run.region ?_
        show Sq _ _ _ [0, 1] _ _ _ _
        refine Sq.quiet (i := 0) rfl (Want.none rfl) rfl (ltN rfl) (QP.eql rfl rfl rfl).read ?_
        refine J.caseD (fun c50 => ?_) (fun c50 => ?_)
        · skip
          refine Sq.quiet (i := 1) rfl (Want.none rfl) rfl (ltN rfl) (QP.assign rfl rfl).read ?_
          refine Sq.nil ?_
          refine hk21 _ _ ?_
          refine Run.cond_t rfl ?_
          refine Run.regionD (M := [0, 0, 0, 4, 0, 16, 0, 64, 255, 511, 0, 0, 0, 4096, 0, 16384, 0, 65536, 262143, 524287, 1048575]) (q := 785663) (r := 172200) (by kernel_rfl) ?_
          refine Dw.pure (i := 0) rfl (by kernel_rfl) (Want.none rfl) rfl (ltN rfl) (QP.move rfl rfl) ?_
          refine Dw.pure (i := 1) rfl (by kernel_rfl) (Want.none rfl) rfl (ltN rfl) (QP.move rfl rfl) ?_
          refine Dw.pure (i := 2) rfl (by kernel_rfl) (Want.none rfl) rfl (ltN rfl) (QP.fieldAddr rfl rfl f39_2) ?_
          refine Dw.read (i := 3) rfl (by kernel_rfl) (Want.none rfl) rfl (ltN rfl) (QR.load rfl rfl g28 (Law15Act.sub_p _)) ?_
          refine Dw.pure (i := 4) rfl (by kernel_rfl) (Want.none rfl) rfl (ltN rfl) (QP.fieldAddr rfl rfl f39_3) ?_
          refine Dw.read (i := 5) rfl (by kernel_rfl) (Want.none rfl) rfl (ltN rfl) (QR.load rfl rfl g30 (Law15Act.sub_id_ _)) ?_
          refine Dw.pure (i := 6) rfl (by kernel_rfl) (Want.none rfl) rfl (ltN rfl) (QP.fieldAddr rfl rfl f39_4) ?_
          refine Dw.read (i := 7) rfl (by kernel_rfl) (Want.none rfl) rfl (ltN rfl) (QR.load rfl rfl g33 (Law15Act.sub_d _)) ?_
          refine Dw.pure (i := 10) rfl (by kernel_rfl) (Want.none rfl) rfl (ltN rfl) (QP.move rfl rfl) ?_
          refine Dw.pure (i := 11) rfl (by kernel_rfl) (Want.none rfl) rfl (ltN rfl) (QP.move rfl rfl) ?_
          refine Dw.pure (i := 12) rfl (by kernel_rfl) (Want.none rfl) rfl (ltN rfl) (QP.fieldAddr rfl rfl f39_2) ?_
          refine Dw.read (i := 13) rfl (by kernel_rfl) (Want.none rfl) rfl (ltN rfl) (QR.load rfl rfl g28 (Law15Act.sub_p _)) ?_
          refine Dw.pure (i := 14) rfl (by kernel_rfl) (Want.none rfl) rfl (ltN rfl) (QP.fieldAddr rfl rfl f39_3) ?_
          refine Dw.read (i := 15) rfl (by kernel_rfl) (Want.none rfl) rfl (ltN rfl) (QR.load rfl rfl g30 (Law15Act.sub_id_ _)) ?_
          refine Dw.pure (i := 16) rfl (by kernel_rfl) (Want.none rfl) rfl (ltN rfl) (QP.fieldAddr rfl rfl f39_4) ?_
          refine Dw.read (i := 17) rfl (by kernel_rfl) (Want.none rfl) rfl (ltN rfl) (QR.load rfl rfl g33 (Law15Act.sub_d _)) ?_
          refine Dw.eff (i := 8) (by kernel_rfl) (by kernel_rfl) ?_
          refine One.mk (o := _) (l := [17, 15, 13]) rfl (by kernel_rfl) (Want.none rfl) rfl (ltN rfl) (EF.call rfl ce11 rfl (.cons (by repeat (first | exact Pick.head | apply Pick.tail)) Takes.nil) (fun F' hle hr => keepT2 F' now2 x.p x.id_ x.d)) (by kernel_rfl) ?_
          rintro _ _ ⟨_, ⟨e1, M2, hk, rfl, rfl⟩, rfl⟩
          refine ⟨?_, ?_⟩
          · rw [List.forall_mem_cons, List.forall_mem_cons, List.forall_mem_cons]
            refine ⟨?_, ?_, ?_, fun _ h => (by cases h)⟩
            · refine Look.app ?_
              exact Look.mk rfl rfl rfl (QR.load rfl rfl g33 (Law15Act.sub_d _))
            · refine Look.app ?_
              exact Look.mk rfl rfl rfl (QR.load rfl rfl g30 (Law15Act.sub_id_ _))
            · refine Look.app ?_
              exact Look.mk rfl rfl rfl (QR.load rfl rfl g28 (Law15Act.sub_p _))
          refine ?_
          refine J.app ?_
          refine Dw.eff (i := 9) (by kernel_rfl) (by kernel_rfl) ?_
          refine One.mk (o := _) (l := [17, 15, 13]) rfl (by kernel_rfl) (Want.none rfl) rfl (ltN rfl) (EF.call rfl ce17 rfl Takes.nil (fun F' hle hr => num_spec F' _)) (by kernel_rfl) ?_
          rintro _ _ ⟨_, ⟨rfl, rfl⟩, rfl⟩
          refine ⟨?_, ?_⟩
          · rw [List.forall_mem_cons, List.forall_mem_cons, List.forall_mem_cons]
            refine ⟨?_, ?_, ?_, fun _ h => (by cases h)⟩
            · refine Look.app ?_
              exact Look.mk rfl rfl rfl (QR.load rfl rfl g33 (Law15Act.sub_d _))
            · refine Look.app ?_
              exact Look.mk rfl rfl rfl (QR.load rfl rfl g30 (Law15Act.sub_id_ _))
            · refine Look.app ?_
              exact Look.mk rfl rfl rfl (QR.load rfl rfl g28 (Law15Act.sub_p _))
          refine ?_
          refine J.app ?_
          refine Dw.eff (i := 18) (by kernel_rfl) (by kernel_rfl) ?_
          refine One.mk (o := _) (l := []) rfl (by kernel_rfl) (Want.none rfl) rfl (ltN rfl) (EF.call rfl ce18 rfl (.cons (by repeat (first | exact Pick.head | apply Pick.tail)) (.cons (by repeat (first | exact Pick.head | apply Pick.tail)) Takes.nil)) (fun F' hle hr => rkeepT_spec F' hh hLn hord.sort (fun y hy => (hgood y hy).2.2) now2 x.p x.id_ x.d hxd)) (by kernel_rfl) ?_
          rintro _ _ ⟨_, ⟨a3, c3, L2, hh2, e2, rfl, hr, rfl⟩, rfl⟩
          refine ⟨fun _ h => (by cases h), ?_⟩
          refine J.app ?_
          obtain ⟨rfl, hord2⟩ := keep_ord hord hk hr
          obtain ⟨hgood2, hl2⟩ := keep_good hr hnn hxd hgood
          replace hl2 : L2.length ≤ i + 1 := by omega
          refine Dw.pure (i := 19) rfl (by kernel_rfl) (Want.none rfl) rfl (ltN rfl) (QP.eql rfl rfl rfl) ?_
          refine J.decT (by simp) ?_
          refine Dw.eff (i := 20) (by kernel_rfl) (by kernel_rfl) ?_
          refine One.mk (o := _) (l := []) rfl (by kernel_rfl) (Want.none rfl) rfl (ltN rfl) ((QP.assign rfl rfl).eff) (by kernel_rfl) ?_
          rintro _ _ ⟨rfl, rfl⟩
          refine ⟨fun _ h => (by cases h), ?_⟩
          refine Dw.nil (by kernel_rfl) ?_
          refine hk19 _ _ ?_
          refine Run.seq fun k22 hk22 => ?_
          refine Run.region ?_
          show Sq _ _ _ [0, 1, 2, 3, 4, 5, 6, 7, 8, 9, 10, 11] _ _ _ _
          refine Sq.quiet (i := 0) rfl (Want.none rfl) rfl (ltN rfl) (QP.move rfl rfl).read ?_
          refine Sq.quiet (i := 1) rfl (Want.none rfl) rfl (ltN rfl) (QP.fieldAddr rfl rfl f39_2).read ?_
          refine Sq.quiet (i := 2) rfl (Want.none rfl) rfl (ltN rfl) (QR.load rfl rfl g28 (Law15Act.sub_p _)) ?_
          refine Sq.quiet (i := 3) rfl (Want.none rfl) rfl (ltN rfl) (QP.fieldAddr rfl rfl f39_3).read ?_
          refine Sq.quiet (i := 4) rfl (Want.none rfl) rfl (ltN rfl) (QR.load rfl rfl g30 (Law15Act.sub_id_ _)) ?_
          refine Sq.eff (i := 5) rfl (Want.none rfl) rfl (ltN rfl) (EF.call rfl ce13 rfl (.cons (by repeat (first | exact Pick.head | apply Pick.tail)) Takes.nil) (fun F' hle hr => getT2 F' x.p x.id_)) ?_
          rintro _ _ ⟨_, (⟨h0, rfl, rfl⟩ | ⟨s, h0, rfl, rfl⟩), rfl⟩
          · skip
            refine J.app ?_
            refine Sq.quiet (i := 6) rfl (Want.none rfl) rfl (ltN rfl) (QP.move rfl rfl).read ?_
            refine Sq.quiet (i := 7) rfl (Want.none rfl) rfl (ltN rfl) (QP.extract rfl rfl rfl).read ?_
            refine Sq.quiet (i := 8) rfl (Want.none rfl) rfl (ltN rfl) (QP.extract rfl rfl rfl).read ?_
            refine Sq.eff (i := 9) rfl (Want.none rfl) rfl (ltN rfl) (EF.allocA (l := Source.enc Source.zero) rfl zero45) ?_
            rintro _ _ ⟨b11, rfl, rfl⟩
            refine Sq.act (i := 10) rfl (Want.none rfl) rfl (EF.storeA rfl rfl rfl z45 (SetL.all (Source.enc_len _) (Source.enc_len _)) (Source.enc_cell _)) ?_
            rintro _ _ rfl
            refine Sq.quiet (i := 11) rfl (Want.none rfl) rfl (ltN rfl) (QP.assign rfl rfl).read ?_
            refine Sq.nil ?_
            refine hk22 _ _ ?_
            refine Run.seq fun k23 hk23 => ?_
            refine Run.region ?_
            show Sq _ _ _ [0, 1, 2, 3, 4, 5, 6] _ _ _ _
            refine Sq.quiet (i := 0) rfl (Want.none rfl) rfl (ltN rfl) (QP.move rfl rfl).read ?_
            refine Sq.quiet (i := 1) rfl (Want.none rfl) rfl (ltN rfl) (QP.fieldAddr rfl rfl f39_2).read ?_
            refine Sq.quiet (i := 2) rfl (Want.none rfl) rfl (ltN rfl) (QR.load rfl rfl g28 (Law15Act.sub_p _)) ?_
            refine Sq.quiet (i := 3) rfl (Want.none rfl) rfl (ltN rfl) (QP.fieldAddr rfl rfl f39_3).read ?_
            refine Sq.quiet (i := 4) rfl (Want.none rfl) rfl (ltN rfl) (QR.load rfl rfl g30 (Law15Act.sub_id_ _)) ?_
            refine Sq.eff (i := 5) rfl (Want.none rfl) rfl (ltN rfl) (EF.call rfl ce23 rfl (.cons (by repeat (first | exact Pick.head | apply Pick.tail)) (.cons (by repeat (first | exact Pick.head | apply Pick.tail)) Takes.nil)) (fun F' hle hr => rfind_spec F' hh2 (by omega) x.p x.id_)) ?_
            rintro _ _ ⟨_, ⟨rfl, n115, rfl, hfind⟩, rfl⟩
            refine J.app ?_
            obtain rfl : n115 = -1 := find_none hord2 h0 hfind
            refine Sq.quiet (i := 6) rfl (Want.none rfl) rfl (ltN rfl) (QP.assign rfl rfl).read ?_
            refine Sq.nil ?_
            refine hk23 _ _ ?_
            refine Run.seq fun k24 hk24 => ?_
            refine Run.region ?_
            show Sq _ _ _ [0, 1, 2, 3, 4, 5, 6] _ _ _ _
            refine Sq.quiet (i := 0) rfl (Want.none rfl) rfl (ltN rfl) (QP.move rfl rfl).read ?_
            refine Sq.eff (i := 1) rfl (Want.none rfl) rfl (ltN rfl) (EF.call rfl ce16 rfl (.cons (by repeat (first | exact Pick.head | apply Pick.tail)) Takes.nil) (fun F' hle hr => nextT2 F' hord2 (by rw [← hord2.length]; omega) hn3 hgood2)) ?_
            rintro _ _ ⟨_, ⟨n1, k1_, rfl, hn1x, rfl⟩, rfl⟩
            refine J.app ?_
            refine Sq.quiet (i := 2) rfl (Want.none rfl) rfl (ltN rfl) (QP.move rfl rfl).read ?_
            refine Sq.quiet (i := 3) rfl (Want.none rfl) rfl (ltN rfl) (QP.extract rfl rfl rfl).read ?_
            refine Sq.quiet (i := 4) rfl (Want.none rfl) rfl (ltN rfl) (QP.extract rfl rfl rfl).read ?_
            refine Sq.quiet (i := 5) rfl (Want.none rfl) rfl (ltN rfl) (QP.assign rfl rfl).read ?_
            refine Sq.quiet (i := 6) rfl (Want.none rfl) rfl (ltN rfl) (QP.assign rfl rfl).read ?_
            refine Sq.nil ?_
            refine hk24 _ _ ?_
            refine Run.seq fun k25 hk25 => ?_
            refine Run.region ?_
            show Sq _ _ _ [0, 1, 2, 3, 4, 5, 6] _ _ _ _
            refine Sq.quiet (i := 0) rfl (Want.none rfl) rfl (ltN rfl) (QP.move rfl rfl).read ?_
            refine Sq.eff (i := 1) rfl (Want.none rfl) rfl (ltN rfl) (EF.call rfl ce24 rfl (.cons (by repeat (first | exact Pick.head | apply Pick.tail)) (.cons (by repeat (first | exact Pick.head | apply Pick.tail)) Takes.nil)) (fun F' hle hr => rnext_spec F' hh2 (by omega) (fun y hy => ⟨(hgood2 y hy).1, Int.le_trans (hgood2 y hy).2.1 hn2⟩))) ?_
            rintro _ _ ⟨_, ⟨rfl, m2, k2_, rfl, hn2x⟩, rfl⟩
            refine J.app ?_
            refine Sq.quiet (i := 2) rfl (Want.none rfl) rfl (ltN rfl) (QP.move rfl rfl).read ?_
            refine Sq.quiet (i := 3) rfl (Want.none rfl) rfl (ltN rfl) (QP.extract rfl rfl rfl).read ?_
            refine Sq.quiet (i := 4) rfl (Want.none rfl) rfl (ltN rfl) (QP.extract rfl rfl rfl).read ?_
            refine Sq.quiet (i := 5) rfl (Want.none rfl) rfl (ltN rfl) (QP.assign rfl rfl).read ?_
            refine Sq.quiet (i := 6) rfl (Want.none rfl) rfl (ltN rfl) (QP.assign rfl rfl).read ?_
            refine Sq.nil ?_
            refine hk25 _ _ ?_
            refine Run.seq fun k26 hk26 => ?_
            refine Run.regionD (M := [0, 1, 3, 7, 15, 7, 39, 103, 231, 511, 1023, 2047, 4095, 8191, 8191, 24575, 65535, 131071, 262143, 524287, 1048575, 2097151, 2097151, 6291455, 14680063, 31457279, 2097151, 132120575, 266338303, 536870911, 1073741823, 2147483647, 4294967295, 8589934591, 17179869183, 34359738367, 68719476735, 68719476735, 274877906943, 549755813887, 1099511627775, 2199023255551, 4398046511103, 4398046511103, 17592186044415, 35184372088831, 70368744177663, 140737488355327, 140737488355327, 562949953421311, 1125899906842623, 2251799813685247, 4503599627370495, 4503599627370495, 13510798882111487, 4503599627370495, 40532396646334463, 4503599627370495, 148618787703226367, 576460752303423487, 4503599627370495, 4503599627370495, 2310346608841064447, 4503599627370495, 9227875636482146303, 4503599627370495, 36897991747046473727, 147573952589676412927, 295147905179352825855, 590295810358705651711]) (q := 1032441207375431466479) (r := 97223708824697831680) (by kernel_rfl) ?_
            refine Dw.pure (i := 0) rfl (by kernel_rfl) (Want.none rfl) rfl (ltN rfl) (QP.move rfl rfl) ?_
            refine Dw.pure (i := 1) rfl (by kernel_rfl) (Want.none rfl) rfl (ltN rfl) (QP.not rfl rfl) ?_
            refine Dw.pure (i := 2) rfl (by kernel_rfl) (Want.none rfl) rfl (ltN rfl) (QP.move rfl rfl) ?_
            refine Dw.pure (i := 3) rfl (by kernel_rfl) (Want.yes rfl rfl rfl rfl) rfl (ltN rfl) (QP.move rfl rfl) ?_
            refine Dw.pure (i := 5) rfl (by kernel_rfl) (Want.yes rfl rfl rfl rfl) rfl (ltN rfl) (QP.move rfl rfl) ?_
            refine Dw.pure (i := 6) rfl (by kernel_rfl) (Want.yes rfl rfl rfl rfl) rfl (ltN rfl) (QP.nilCheck rfl rfl) ?_
            refine Dw.pure (i := 7) rfl (by kernel_rfl) (Want.yes rfl rfl rfl rfl) rfl (ltN rfl) (QP.fieldAddr rfl rfl f56_1) ?_
            refine Dw.read (i := 8) rfl (by kernel_rfl) (Want.yes rfl rfl rfl rfl) rfl (ltN rfl) (QR.load1 (v := .slice _ L2.length _) rfl rfl g42 (Ref15Table.sub_l _)) ?_
            refine Dw.eff (i := 4) (by kernel_rfl) (by kernel_rfl) ?_
            refine One.mk (o := _) (l := [8]) rfl (by kernel_rfl) (Want.yes rfl rfl rfl rfl) rfl (ltN rfl) (EF.call rfl ce15 rfl (.cons (by repeat (first | exact Pick.head | apply Pick.tail)) Takes.nil) (fun F' hle hr => listT2 F' hord2 (by rw [← hord2.length]; omega))) (by kernel_rfl) ?_
            rintro v130 _ ⟨_, rfl, rfl⟩
            refine ⟨?_, ?_⟩
            · rw [List.forall_mem_cons]
              refine ⟨?_, fun _ h => (by cases h)⟩
              · refine Look.app ?_
                exact Look.mk rfl rfl rfl (QR.load1 (v := .slice _ L2.length _) rfl rfl g42 (Ref15Table.sub_l _))
            refine ?_
            refine J.app ?_
            refine Dw.slCase (v := v130) (xs := L2) (by repeat (first | exact List.Mem.head _ | apply List.Mem.tail)) (fun a130 c130 hv130 hh130 => ?_)
            subst hv130
            refine Dw.eff (i := 9) (by kernel_rfl) (by kernel_rfl) ?_
            refine One.mk (o := _) (l := []) rfl (by kernel_rfl) (Want.yes rfl rfl rfl rfl) rfl (ltN rfl) (EF.call rfl ce19 rfl (.cons (by repeat (first | exact Pick.head | apply Pick.tail)) (.cons (by repeat (first | exact Pick.head | apply Pick.tail)) Takes.nil)) (fun F' hle hr => same_spec F' hh130 hh2 (by omega) (by omega))) (by kernel_rfl) ?_
            rintro _ _ ⟨_, ⟨rfl, rfl⟩, rfl⟩
            refine ⟨fun _ h => (by cases h), ?_⟩
            refine J.app ?_
            refine J.boolT (by simp) ?_
            refine Dw.pure (i := 10) rfl (by kernel_rfl) (Want.yes rfl rfl rfl rfl) rfl (ltN rfl) (QP.not rfl rfl) ?_
            refine Dw.pure (i := 11) rfl (by kernel_rfl) (Want.none rfl) rfl (ltN rfl) (QP.pick_f rfl rfl rfl) ?_
            refine Dw.pure (i := 12) rfl (by kernel_rfl) (Want.none rfl) rfl (ltN rfl) (QP.move rfl rfl) ?_
            refine Dw.pure (i := 13) rfl (by kernel_rfl) (Want.yes rfl rfl rfl rfl) rfl (ltN rfl) (QP.move rfl rfl) ?_
            refine Dw.pure (i := 14) rfl (by kernel_rfl) (Want.yes rfl rfl rfl rfl) rfl (ltN rfl) (QP.move rfl rfl) ?_
            refine Dw.pure (i := 15) rfl (by kernel_rfl) (Want.yes rfl rfl rfl rfl) rfl (ltN rfl) (QP.geq rfl rfl rfl) ?_
            refine J.decF (by omega) ?_
            refine Dw.pure (i := 16) rfl (by kernel_rfl) (Want.yes rfl rfl rfl rfl) rfl (ltN rfl) (QP.neqB rfl rfl rfl Try.underlying4) ?_
            refine J.boolF (rfl) ?_
            refine Dw.pure (i := 17) rfl (by kernel_rfl) (Want.none rfl) rfl (ltN rfl) (QP.pick_f rfl rfl rfl) ?_
            refine Dw.pure (i := 18) rfl (by kernel_rfl) (Want.none rfl) rfl (ltN rfl) (QP.move rfl rfl) ?_
            refine Dw.pure (i := 19) rfl (by kernel_rfl) (Want.yes rfl rfl rfl rfl) rfl (ltN rfl) (QP.move rfl rfl) ?_
            refine Dw.pure (i := 20) rfl (by kernel_rfl) (Want.yes rfl rfl rfl rfl) rfl (ltN rfl) (QP.move rfl rfl) ?_
            refine Dw.skip (i := 21) rfl (by kernel_rfl) (Want.no rfl rfl rfl rfl) rfl (ltN rfl) ?_
            refine Dw.skip (i := 22) rfl (by kernel_rfl) (Want.no rfl rfl rfl rfl) rfl (ltN rfl) ?_
            refine Dw.skip (i := 23) rfl (by kernel_rfl) (Want.no rfl rfl rfl rfl) rfl (ltN rfl) ?_
            refine Dw.skip (i := 24) rfl (by kernel_rfl) (Want.no rfl rfl rfl rfl) rfl (ltN rfl) ?_
            refine Dw.skip (i := 25) rfl (by kernel_rfl) (Want.no rfl rfl rfl rfl) rfl (ltN rfl) ?_
            refine Dw.skip (i := 26) rfl (by kernel_rfl) (Want.no rfl rfl rfl rfl) rfl (ltN rfl) ?_
            refine Dw.skip (i := 27) rfl (by kernel_rfl) (Want.no rfl rfl rfl rfl) rfl (ltN rfl) ?_
            refine Dw.skip (i := 28) rfl (by kernel_rfl) (Want.no rfl rfl rfl rfl) rfl (ltN rfl) ?_
            refine Dw.skip (i := 29) rfl (by kernel_rfl) (Want.no rfl rfl rfl rfl) rfl (ltN rfl) ?_
            refine Dw.pure (i := 30) rfl (by kernel_rfl) (Want.yes rfl rfl rfl rfl) rfl (ltN rfl) (QP.pick_f rfl rfl rfl) ?_
            refine Dw.pure (i := 31) rfl (by kernel_rfl) (Want.none rfl) rfl (ltN rfl) (QP.pick_f rfl rfl rfl) ?_
            refine Dw.pure (i := 32) rfl (by kernel_rfl) (Want.none rfl) rfl (ltN rfl) (QP.move rfl rfl) ?_
            refine Dw.pure (i := 33) rfl (by kernel_rfl) (Want.yes rfl rfl rfl rfl) rfl (ltN rfl) (QP.move rfl rfl) ?_
            refine Dw.pure (i := 34) rfl (by kernel_rfl) (Want.yes rfl rfl rfl rfl) rfl (ltN rfl) (QP.not rfl rfl) ?_
            refine Dw.pure (i := 35) rfl (by kernel_rfl) (Want.yes rfl rfl rfl rfl) rfl (ltN rfl) (QP.move rfl rfl) ?_
            refine Dw.read (i := 36) rfl (by kernel_rfl) (Want.yes rfl rfl rfl rfl) rfl (ltN rfl) (QR.load rfl rfl g45 (Source.enc_sub _)) ?_
            refine Dw.pure (i := 37) rfl (by kernel_rfl) (Want.yes rfl rfl rfl rfl) rfl (ltN rfl) (QP.build (l := Source.enc Source.zero) rfl st45 rfl (by exact trivial) rfl) ?_
            refine Dw.pure (i := 38) rfl (by kernel_rfl) (Want.yes rfl rfl rfl rfl) rfl (ltN rfl) (QP.neq_agg eq45 rfl rfl rfl) ?_
            refine J.decF (by simp) ?_
            refine Dw.pure (i := 39) rfl (by kernel_rfl) (Want.yes rfl rfl rfl rfl) rfl (ltN rfl) (QP.pick_t rfl rfl rfl) ?_
            refine Dw.pure (i := 40) rfl (by kernel_rfl) (Want.none rfl) rfl (ltN rfl) (QP.pick_f rfl rfl rfl) ?_
            refine Dw.pure (i := 41) rfl (by kernel_rfl) (Want.none rfl) rfl (ltN rfl) (QP.move rfl rfl) ?_
            refine Dw.pure (i := 42) rfl (by kernel_rfl) (Want.yes rfl rfl rfl rfl) rfl (ltN rfl) (QP.move rfl rfl) ?_
            refine Dw.pure (i := 43) rfl (by kernel_rfl) (Want.yes rfl rfl rfl rfl) rfl (ltN rfl) (QP.move rfl rfl) ?_
            refine Dw.pure (i := 44) rfl (by kernel_rfl) (Want.yes rfl rfl rfl rfl) rfl (ltN rfl) (QP.neq rfl rfl rfl) ?_
            refine J.decF (by simp [(hn1x.uniq hn2x).1]) ?_
            refine Dw.pure (i := 45) rfl (by kernel_rfl) (Want.none rfl) rfl (ltN rfl) (QP.pick_f rfl rfl rfl) ?_
            refine Dw.pure (i := 46) rfl (by kernel_rfl) (Want.none rfl) rfl (ltN rfl) (QP.move rfl rfl) ?_
            refine Dw.pure (i := 47) rfl (by kernel_rfl) (Want.yes rfl rfl rfl rfl) rfl (ltN rfl) (QP.move rfl rfl) ?_
            refine Dw.pure (i := 48) rfl (by kernel_rfl) (Want.yes rfl rfl rfl rfl) rfl (ltN rfl) (QP.move rfl rfl) ?_
            refine Dw.pure (i := 49) rfl (by kernel_rfl) (Want.yes rfl rfl rfl rfl) rfl (ltN rfl) (QP.neqB rfl rfl rfl Try.underlying4) ?_
            refine J.boolF (by simp [(hn1x.uniq hn2x).2]) ?_
            refine Dw.pure (i := 50) rfl (by kernel_rfl) (Want.none rfl) rfl (ltN rfl) (QP.pick_f rfl rfl rfl) ?_
            refine Dw.pure (i := 51) rfl (by kernel_rfl) (Want.none rfl) rfl (ltN rfl) (QP.move rfl rfl) ?_
            refine Dw.pure (i := 52) rfl (by kernel_rfl) (Want.yes rfl rfl rfl rfl) rfl (ltN rfl) (QP.move rfl rfl) ?_
            refine Dw.pure (i := 53) rfl (by kernel_rfl) (Want.yes rfl rfl rfl rfl) rfl (ltN rfl) (QP.fieldAddr rfl rfl f39_2) ?_
            refine Dw.read (i := 54) rfl (by kernel_rfl) (Want.yes rfl rfl rfl rfl) rfl (ltN rfl) (QR.load rfl rfl g28 (Law15Act.sub_p _)) ?_
            refine Dw.pure (i := 55) rfl (by kernel_rfl) (Want.yes rfl rfl rfl rfl) rfl (ltN rfl) (QP.fieldAddr rfl rfl f39_3) ?_
            refine Dw.read (i := 56) rfl (by kernel_rfl) (Want.yes rfl rfl rfl rfl) rfl (ltN rfl) (QR.load rfl rfl g30 (Law15Act.sub_id_ _)) ?_
            refine Dw.pure (i := 57) rfl (by kernel_rfl) (Want.yes rfl rfl rfl rfl) rfl (ltN rfl) (QP.fieldAddr rfl rfl f39_4) ?_
            refine Dw.read (i := 58) rfl (by kernel_rfl) (Want.yes rfl rfl rfl rfl) rfl (ltN rfl) (QR.load rfl rfl g33 (Law15Act.sub_d _)) ?_
            refine Dw.pure (i := 60) rfl (by kernel_rfl) (Want.yes rfl rfl rfl rfl) rfl (ltN rfl) (QP.move rfl rfl) ?_
            refine Dw.pure (i := 61) rfl (by kernel_rfl) (Want.yes rfl rfl rfl rfl) rfl (ltN rfl) (QP.fieldAddr rfl rfl f39_2) ?_
            refine Dw.read (i := 62) rfl (by kernel_rfl) (Want.yes rfl rfl rfl rfl) rfl (ltN rfl) (QR.load rfl rfl g28 (Law15Act.sub_p _)) ?_
            refine Dw.pure (i := 63) rfl (by kernel_rfl) (Want.yes rfl rfl rfl rfl) rfl (ltN rfl) (QP.fieldAddr rfl rfl f39_3) ?_
            refine Dw.read (i := 64) rfl (by kernel_rfl) (Want.yes rfl rfl rfl rfl) rfl (ltN rfl) (QR.load rfl rfl g30 (Law15Act.sub_id_ _)) ?_
            refine Dw.pure (i := 65) rfl (by kernel_rfl) (Want.yes rfl rfl rfl rfl) rfl (ltN rfl) (QP.fieldAddr rfl rfl f39_4) ?_
            refine Dw.read (i := 66) rfl (by kernel_rfl) (Want.yes rfl rfl rfl rfl) rfl (ltN rfl) (QR.load rfl rfl g33 (Law15Act.sub_d _)) ?_
            refine Dw.eff (i := 59) (by kernel_rfl) (by kernel_rfl) ?_
            refine One.mk (o := _) (l := [66, 64, 62]) rfl (by kernel_rfl) (Want.yes rfl rfl rfl rfl) rfl (ltN rfl) (EF.call rfl ce14 rfl (.cons (by repeat (first | exact Pick.head | apply Pick.tail)) Takes.nil) (fun F' hle hr => feasT F' x.p x.id_ x.d)) (by kernel_rfl) ?_
            rintro _ _ ⟨_, ⟨rfl, rfl⟩, rfl⟩
            refine ⟨?_, ?_⟩
            · rw [List.forall_mem_cons, List.forall_mem_cons, List.forall_mem_cons]
              refine ⟨?_, ?_, ?_, fun _ h => (by cases h)⟩
              · refine Look.app ?_
                exact Look.mk rfl rfl rfl (QR.load rfl rfl g33 (Law15Act.sub_d _))
              · refine Look.app ?_
                exact Look.mk rfl rfl rfl (QR.load rfl rfl g30 (Law15Act.sub_id_ _))
              · refine Look.app ?_
                exact Look.mk rfl rfl rfl (QR.load rfl rfl g28 (Law15Act.sub_p _))
            refine ?_
            refine J.app ?_
            refine Dw.eff (i := 67) (by kernel_rfl) (by kernel_rfl) ?_
            refine One.mk (o := _) (l := []) rfl (by kernel_rfl) (Want.yes rfl rfl rfl rfl) rfl (ltN rfl) (EF.call rfl ce25 rfl (.cons (by repeat (first | exact Pick.head | apply Pick.tail)) (.cons (by repeat (first | exact Pick.head | apply Pick.tail)) Takes.nil)) (fun F' hle hr => rfeasible_spec F' hh2 (by omega) (fun y hy => (hgood2 y hy).2.2) x.p x.id_ x.d hxd)) (by kernel_rfl) ?_
            rintro _ _ ⟨_, ⟨rfl, rf, rfl, hrf⟩, rfl⟩
            refine ⟨fun _ h => (by cases h), ?_⟩
            refine J.app ?_
            refine Dw.pure (i := 68) rfl (by kernel_rfl) (Want.yes rfl rfl rfl rfl) rfl (ltN rfl) (QP.neqB rfl rfl rfl Try.underlying4) ?_
            refine J.boolF (by rw [feas_ord hord2 hrf]; simp) ?_
            refine Dw.pure (i := 69) rfl (by kernel_rfl) (Want.none rfl) rfl (ltN rfl) (QP.pick_f rfl rfl rfl) ?_
            refine Dw.nil (by kernel_rfl) ?_
            refine hk26 _ _ ?_
            refine Run.cond_f rfl ?_
            refine Run.skip ?_
            refine hk15 _ _ ?_
            refine Run.region ?_
            show Sq _ _ _ [0, 1, 2] _ _ _ _
            refine Sq.quiet (i := 0) rfl (Want.none rfl) rfl (ltN rfl) (QP.move rfl rfl).read ?_
            refine Sq.quiet (i := 1) rfl (Want.none rfl) rfl (ltN rfl) (QP.add64 rfl rfl rfl (by first | omega | (simp <;> omega)) (by first | omega | (simp <;> omega))).read ?_
            refine Sq.quiet (i := 2) rfl (Want.none rfl) rfl (ltN rfl) (QP.assign rfl rfl).read ?_
            refine Sq.nil ?_
            exact J.envJ (J.keep (.cons (by repeat (first | exact Pick.head | apply Pick.tail)) (.cons (by repeat (first | exact Pick.head | apply Pick.tail)) (.cons (by repeat (first | exact Pick.head | apply Pick.tail)) Takes.nil))) (hl12 (i + 1) (now2) (M2) (L2) (a3) (c3) (⟨by omega, hnn, by omega, hord2, hgood2, hl2, hh2⟩) (by omega))) ⟨rfl, rfl, rfl, rfl, rfl, trivial⟩
          · skip
            refine J.app ?_
            refine Sq.quiet (i := 6) rfl (Want.none rfl) rfl (ltN rfl) (QP.move rfl rfl).read ?_
            refine Sq.quiet (i := 7) rfl (Want.none rfl) rfl (ltN rfl) (QP.extract rfl rfl rfl).read ?_
            refine Sq.quiet (i := 8) rfl (Want.none rfl) rfl (ltN rfl) (QP.extract rfl rfl rfl).read ?_
            refine Sq.eff (i := 9) rfl (Want.none rfl) rfl (ltN rfl) (EF.allocA (l := Source.enc Source.zero) rfl zero45) ?_
            rintro _ _ ⟨b11, rfl, rfl⟩
            refine Sq.act (i := 10) rfl (Want.none rfl) rfl (EF.storeA rfl rfl rfl z45 (SetL.all (Source.enc_len _) (Source.enc_len _)) (Source.enc_cell _)) ?_
            rintro _ _ rfl
            refine Sq.quiet (i := 11) rfl (Want.none rfl) rfl (ltN rfl) (QP.assign rfl rfl).read ?_
            refine Sq.nil ?_
            refine hk22 _ _ ?_
            refine Run.seq fun k27 hk27 => ?_
            refine Run.region ?_
            show Sq _ _ _ [0, 1, 2, 3, 4, 5, 6] _ _ _ _
            refine Sq.quiet (i := 0) rfl (Want.none rfl) rfl (ltN rfl) (QP.move rfl rfl).read ?_
            refine Sq.quiet (i := 1) rfl (Want.none rfl) rfl (ltN rfl) (QP.fieldAddr rfl rfl f39_2).read ?_
            refine Sq.quiet (i := 2) rfl (Want.none rfl) rfl (ltN rfl) (QR.load rfl rfl g28 (Law15Act.sub_p _)) ?_
            refine Sq.quiet (i := 3) rfl (Want.none rfl) rfl (ltN rfl) (QP.fieldAddr rfl rfl f39_3).read ?_
            refine Sq.quiet (i := 4) rfl (Want.none rfl) rfl (ltN rfl) (QR.load rfl rfl g30 (Law15Act.sub_id_ _)) ?_
            refine Sq.eff (i := 5) rfl (Want.none rfl) rfl (ltN rfl) (EF.call rfl ce23 rfl (.cons (by repeat (first | exact Pick.head | apply Pick.tail)) (.cons (by repeat (first | exact Pick.head | apply Pick.tail)) Takes.nil)) (fun F' hle hr => rfind_spec F' hh2 (by omega) x.p x.id_)) ?_
            rintro _ _ ⟨_, ⟨rfl, n115, rfl, hfind⟩, rfl⟩
            refine J.app ?_
            obtain ⟨ky, rfl, hky⟩ : ∃ ky : Nat, n115 = ky ∧ L2[ky]? = some s := find_some hord2 h0 hfind
            have hkl : ky < L2.length := (List.getElem?_eq_some_iff.1 hky).1
            refine Sq.quiet (i := 6) rfl (Want.none rfl) rfl (ltN rfl) (QP.assign rfl rfl).read ?_
            refine Sq.nil ?_
            refine hk27 _ _ ?_
            refine Run.seq fun k28 hk28 => ?_
            refine Run.region ?_
            show Sq _ _ _ [0, 1, 2, 3, 4, 5, 6] _ _ _ _
            refine Sq.quiet (i := 0) rfl (Want.none rfl) rfl (ltN rfl) (QP.move rfl rfl).read ?_
            refine Sq.eff (i := 1) rfl (Want.none rfl) rfl (ltN rfl) (EF.call rfl ce16 rfl (.cons (by repeat (first | exact Pick.head | apply Pick.tail)) Takes.nil) (fun F' hle hr => nextT2 F' hord2 (by rw [← hord2.length]; omega) hn3 hgood2)) ?_
            rintro _ _ ⟨_, ⟨n1, k1_, rfl, hn1x, rfl⟩, rfl⟩
            refine J.app ?_
            refine Sq.quiet (i := 2) rfl (Want.none rfl) rfl (ltN rfl) (QP.move rfl rfl).read ?_
            refine Sq.quiet (i := 3) rfl (Want.none rfl) rfl (ltN rfl) (QP.extract rfl rfl rfl).read ?_
            refine Sq.quiet (i := 4) rfl (Want.none rfl) rfl (ltN rfl) (QP.extract rfl rfl rfl).read ?_
            refine Sq.quiet (i := 5) rfl (Want.none rfl) rfl (ltN rfl) (QP.assign rfl rfl).read ?_
            refine Sq.quiet (i := 6) rfl (Want.none rfl) rfl (ltN rfl) (QP.assign rfl rfl).read ?_
            refine Sq.nil ?_
            refine hk28 _ _ ?_
            refine Run.seq fun k29 hk29 => ?_
            refine Run.region ?_
            show Sq _ _ _ [0, 1, 2, 3, 4, 5, 6] _ _ _ _
            refine Sq.quiet (i := 0) rfl (Want.none rfl) rfl (ltN rfl) (QP.move rfl rfl).read ?_
            refine Sq.eff (i := 1) rfl (Want.none rfl) rfl (ltN rfl) (EF.call rfl ce24 rfl (.cons (by repeat (first | exact Pick.head | apply Pick.tail)) (.cons (by repeat (first | exact Pick.head | apply Pick.tail)) Takes.nil)) (fun F' hle hr => rnext_spec F' hh2 (by omega) (fun y hy => ⟨(hgood2 y hy).1, Int.le_trans (hgood2 y hy).2.1 hn2⟩))) ?_
            rintro _ _ ⟨_, ⟨rfl, m2, k2_, rfl, hn2x⟩, rfl⟩
            refine J.app ?_
            refine Sq.quiet (i := 2) rfl (Want.none rfl) rfl (ltN rfl) (QP.move rfl rfl).read ?_
            refine Sq.quiet (i := 3) rfl (Want.none rfl) rfl (ltN rfl) (QP.extract rfl rfl rfl).read ?_
            refine Sq.quiet (i := 4) rfl (Want.none rfl) rfl (ltN rfl) (QP.extract rfl rfl rfl).read ?_
            refine Sq.quiet (i := 5) rfl (Want.none rfl) rfl (ltN rfl) (QP.assign rfl rfl).read ?_
            refine Sq.quiet (i := 6) rfl (Want.none rfl) rfl (ltN rfl) (QP.assign rfl rfl).read ?_
            refine Sq.nil ?_
            refine hk29 _ _ ?_
            refine Run.seq fun k30 hk30 => ?_
            refine Run.regionD (M := [0, 1, 3, 7, 15, 7, 39, 103, 231, 511, 1023, 2047, 4095, 8191, 8191, 24575, 65535, 131071, 262143, 524287, 1048575, 2097151, 2097151, 6291455, 14680063, 31457279, 2097151, 132120575, 266338303, 536870911, 1073741823, 2147483647, 4294967295, 8589934591, 17179869183, 34359738367, 68719476735, 68719476735, 274877906943, 549755813887, 1099511627775, 2199023255551, 4398046511103, 4398046511103, 17592186044415, 35184372088831, 70368744177663, 140737488355327, 140737488355327, 562949953421311, 1125899906842623, 2251799813685247, 4503599627370495, 4503599627370495, 13510798882111487, 4503599627370495, 40532396646334463, 4503599627370495, 148618787703226367, 576460752303423487, 4503599627370495, 4503599627370495, 2310346608841064447, 4503599627370495, 9227875636482146303, 4503599627370495, 36897991747046473727, 147573952589676412927, 295147905179352825855, 590295810358705651711]) (q := 1032441207375431466479) (r := 97223708824697831680) (by kernel_rfl) ?_
            refine Dw.pure (i := 0) rfl (by kernel_rfl) (Want.none rfl) rfl (ltN rfl) (QP.move rfl rfl) ?_
            refine Dw.pure (i := 1) rfl (by kernel_rfl) (Want.none rfl) rfl (ltN rfl) (QP.not rfl rfl) ?_
            refine Dw.pure (i := 2) rfl (by kernel_rfl) (Want.none rfl) rfl (ltN rfl) (QP.move rfl rfl) ?_
            refine Dw.pure (i := 3) rfl (by kernel_rfl) (Want.yes rfl rfl rfl rfl) rfl (ltN rfl) (QP.move rfl rfl) ?_
            refine Dw.pure (i := 5) rfl (by kernel_rfl) (Want.yes rfl rfl rfl rfl) rfl (ltN rfl) (QP.move rfl rfl) ?_
            refine Dw.pure (i := 6) rfl (by kernel_rfl) (Want.yes rfl rfl rfl rfl) rfl (ltN rfl) (QP.nilCheck rfl rfl) ?_
            refine Dw.pure (i := 7) rfl (by kernel_rfl) (Want.yes rfl rfl rfl rfl) rfl (ltN rfl) (QP.fieldAddr rfl rfl f56_1) ?_
            refine Dw.read (i := 8) rfl (by kernel_rfl) (Want.yes rfl rfl rfl rfl) rfl (ltN rfl) (QR.load1 (v := .slice _ L2.length _) rfl rfl g42 (Ref15Table.sub_l _)) ?_
            refine Dw.eff (i := 4) (by kernel_rfl) (by kernel_rfl) ?_
            refine One.mk (o := _) (l := [8]) rfl (by kernel_rfl) (Want.yes rfl rfl rfl rfl) rfl (ltN rfl) (EF.call rfl ce15 rfl (.cons (by repeat (first | exact Pick.head | apply Pick.tail)) Takes.nil) (fun F' hle hr => listT2 F' hord2 (by rw [← hord2.length]; omega))) (by kernel_rfl) ?_
            rintro v130 _ ⟨_, rfl, rfl⟩
            refine ⟨?_, ?_⟩
            · rw [List.forall_mem_cons]
              refine ⟨?_, fun _ h => (by cases h)⟩
              · refine Look.app ?_
                exact Look.mk rfl rfl rfl (QR.load1 (v := .slice _ L2.length _) rfl rfl g42 (Ref15Table.sub_l _))
            refine ?_
            refine J.app ?_
            refine Dw.slCase (v := v130) (xs := L2) (by repeat (first | exact List.Mem.head _ | apply List.Mem.tail)) (fun a130 c130 hv130 hh130 => ?_)
            subst hv130
            refine Dw.eff (i := 9) (by kernel_rfl) (by kernel_rfl) ?_
            refine One.mk (o := _) (l := []) rfl (by kernel_rfl) (Want.yes rfl rfl rfl rfl) rfl (ltN rfl) (EF.call rfl ce19 rfl (.cons (by repeat (first | exact Pick.head | apply Pick.tail)) (.cons (by repeat (first | exact Pick.head | apply Pick.tail)) Takes.nil)) (fun F' hle hr => same_spec F' hh130 hh2 (by omega) (by omega))) (by kernel_rfl) ?_
            rintro _ _ ⟨_, ⟨rfl, rfl⟩, rfl⟩
            refine ⟨fun _ h => (by cases h), ?_⟩
            refine J.app ?_
            refine J.boolT (by simp) ?_
            refine Dw.pure (i := 10) rfl (by kernel_rfl) (Want.yes rfl rfl rfl rfl) rfl (ltN rfl) (QP.not rfl rfl) ?_
            refine Dw.pure (i := 11) rfl (by kernel_rfl) (Want.none rfl) rfl (ltN rfl) (QP.pick_f rfl rfl rfl) ?_
            refine Dw.pure (i := 12) rfl (by kernel_rfl) (Want.none rfl) rfl (ltN rfl) (QP.move rfl rfl) ?_
            refine Dw.pure (i := 13) rfl (by kernel_rfl) (Want.yes rfl rfl rfl rfl) rfl (ltN rfl) (QP.move rfl rfl) ?_
            refine Dw.pure (i := 14) rfl (by kernel_rfl) (Want.yes rfl rfl rfl rfl) rfl (ltN rfl) (QP.move rfl rfl) ?_
            refine Dw.pure (i := 15) rfl (by kernel_rfl) (Want.yes rfl rfl rfl rfl) rfl (ltN rfl) (QP.geq rfl rfl rfl) ?_
            refine J.decT (by omega) ?_
            refine Dw.pure (i := 16) rfl (by kernel_rfl) (Want.yes rfl rfl rfl rfl) rfl (ltN rfl) (QP.neqB rfl rfl rfl Try.underlying4) ?_
            refine J.boolF (rfl) ?_
            refine Dw.pure (i := 17) rfl (by kernel_rfl) (Want.none rfl) rfl (ltN rfl) (QP.pick_f rfl rfl rfl) ?_
            refine Dw.pure (i := 18) rfl (by kernel_rfl) (Want.none rfl) rfl (ltN rfl) (QP.move rfl rfl) ?_
            refine Dw.pure (i := 19) rfl (by kernel_rfl) (Want.yes rfl rfl rfl rfl) rfl (ltN rfl) (QP.move rfl rfl) ?_
            refine Dw.pure (i := 20) rfl (by kernel_rfl) (Want.yes rfl rfl rfl rfl) rfl (ltN rfl) (QP.move rfl rfl) ?_
            refine Dw.read (i := 21) rfl (by kernel_rfl) (Want.yes rfl rfl rfl rfl) rfl (ltN rfl) (QR.load rfl rfl g45 (Source.enc_sub _)) ?_
            refine Dw.pure (i := 22) rfl (by kernel_rfl) (Want.yes rfl rfl rfl rfl) rfl (ltN rfl) (QP.move rfl rfl) ?_
            refine Dw.pure (i := 23) rfl (by kernel_rfl) (Want.yes rfl rfl rfl rfl) rfl (ltN rfl) (QP.nilCheck rfl rfl) ?_
            refine Dw.pure (i := 24) rfl (by kernel_rfl) (Want.yes rfl rfl rfl rfl) rfl (ltN rfl) (QP.fieldAddr rfl rfl f56_1) ?_
            refine Dw.read (i := 25) rfl (by kernel_rfl) (Want.yes rfl rfl rfl rfl) rfl (ltN rfl) (QR.load1 (v := .slice _ L2.length _) rfl rfl g42 (Ref15Table.sub_l _)) ?_
            refine Dw.pure (i := 26) rfl (by kernel_rfl) (Want.yes rfl rfl rfl rfl) rfl (ltN rfl) (QP.move rfl rfl) ?_
            obtain ⟨b0y, o0y, rfl⟩ := hh2.get (by omega)
            refine Dw.pure (i := 27) rfl (by kernel_rfl) (Want.yes rfl rfl rfl rfl) rfl (ltN rfl) (QP.indexAddr rfl rfl rfl Try.underlying42 z45 (by first | omega | (simp <;> omega)) (by first | omega | (simp <;> omega))) ?_
            refine Dw.read (i := 28) rfl (by kernel_rfl) (Want.yes rfl rfl rfl rfl) rfl (ltN rfl) (QR.loadSl rfl rfl g45 Source.enc_len (SlAt.own Source.enc_len (by repeat (first | exact List.Mem.head _ | apply List.Mem.tail))) hky) ?_
            refine Dw.pure (i := 29) rfl (by kernel_rfl) (Want.yes rfl rfl rfl rfl) rfl (ltN rfl) (QP.neq_agg eq45 rfl rfl rfl) ?_
            refine J.decF (by simp) ?_
            refine Dw.pure (i := 30) rfl (by kernel_rfl) (Want.yes rfl rfl rfl rfl) rfl (ltN rfl) (QP.pick_t rfl rfl rfl) ?_
            refine Dw.pure (i := 31) rfl (by kernel_rfl) (Want.none rfl) rfl (ltN rfl) (QP.pick_f rfl rfl rfl) ?_
            refine Dw.pure (i := 32) rfl (by kernel_rfl) (Want.none rfl) rfl (ltN rfl) (QP.move rfl rfl) ?_
            refine Dw.pure (i := 33) rfl (by kernel_rfl) (Want.yes rfl rfl rfl rfl) rfl (ltN rfl) (QP.move rfl rfl) ?_
            refine Dw.pure (i := 34) rfl (by kernel_rfl) (Want.yes rfl rfl rfl rfl) rfl (ltN rfl) (QP.not rfl rfl) ?_
            refine Dw.pure (i := 35) rfl (by kernel_rfl) (Want.yes rfl rfl rfl rfl) rfl (ltN rfl) (QP.move rfl rfl) ?_
            refine Dw.skip (i := 36) rfl (by kernel_rfl) (Want.no rfl rfl rfl rfl) rfl (ltN rfl) ?_
            refine Dw.skip (i := 37) rfl (by kernel_rfl) (Want.no rfl rfl rfl rfl) rfl (ltN rfl) ?_
            refine Dw.skip (i := 38) rfl (by kernel_rfl) (Want.no rfl rfl rfl rfl) rfl (ltN rfl) ?_
            refine Dw.pure (i := 39) rfl (by kernel_rfl) (Want.yes rfl rfl rfl rfl) rfl (ltN rfl) (QP.pick_f rfl rfl rfl) ?_
            refine Dw.pure (i := 40) rfl (by kernel_rfl) (Want.none rfl) rfl (ltN rfl) (QP.pick_f rfl rfl rfl) ?_
            refine Dw.pure (i := 41) rfl (by kernel_rfl) (Want.none rfl) rfl (ltN rfl) (QP.move rfl rfl) ?_
            refine Dw.pure (i := 42) rfl (by kernel_rfl) (Want.yes rfl rfl rfl rfl) rfl (ltN rfl) (QP.move rfl rfl) ?_
            refine Dw.pure (i := 43) rfl (by kernel_rfl) (Want.yes rfl rfl rfl rfl) rfl (ltN rfl) (QP.move rfl rfl) ?_
            refine Dw.pure (i := 44) rfl (by kernel_rfl) (Want.yes rfl rfl rfl rfl) rfl (ltN rfl) (QP.neq rfl rfl rfl) ?_
            refine J.decF (by simp [(hn1x.uniq hn2x).1]) ?_
            refine Dw.pure (i := 45) rfl (by kernel_rfl) (Want.none rfl) rfl (ltN rfl) (QP.pick_f rfl rfl rfl) ?_
            refine Dw.pure (i := 46) rfl (by kernel_rfl) (Want.none rfl) rfl (ltN rfl) (QP.move rfl rfl) ?_
            refine Dw.pure (i := 47) rfl (by kernel_rfl) (Want.yes rfl rfl rfl rfl) rfl (ltN rfl) (QP.move rfl rfl) ?_
            refine Dw.pure (i := 48) rfl (by kernel_rfl) (Want.yes rfl rfl rfl rfl) rfl (ltN rfl) (QP.move rfl rfl) ?_
            refine Dw.pure (i := 49) rfl (by kernel_rfl) (Want.yes rfl rfl rfl rfl) rfl (ltN rfl) (QP.neqB rfl rfl rfl Try.underlying4) ?_
            refine J.boolF (by simp [(hn1x.uniq hn2x).2]) ?_
            refine Dw.pure (i := 50) rfl (by kernel_rfl) (Want.none rfl) rfl (ltN rfl) (QP.pick_f rfl rfl rfl) ?_
            refine Dw.pure (i := 51) rfl (by kernel_rfl) (Want.none rfl) rfl (ltN rfl) (QP.move rfl rfl) ?_
            refine Dw.pure (i := 52) rfl (by kernel_rfl) (Want.yes rfl rfl rfl rfl) rfl (ltN rfl) (QP.move rfl rfl) ?_
            refine Dw.pure (i := 53) rfl (by kernel_rfl) (Want.yes rfl rfl rfl rfl) rfl (ltN rfl) (QP.fieldAddr rfl rfl f39_2) ?_
            refine Dw.read (i := 54) rfl (by kernel_rfl) (Want.yes rfl rfl rfl rfl) rfl (ltN rfl) (QR.load rfl rfl g28 (Law15Act.sub_p _)) ?_
            refine Dw.pure (i := 55) rfl (by kernel_rfl) (Want.yes rfl rfl rfl rfl) rfl (ltN rfl) (QP.fieldAddr rfl rfl f39_3) ?_
            refine Dw.read (i := 56) rfl (by kernel_rfl) (Want.yes rfl rfl rfl rfl) rfl (ltN rfl) (QR.load rfl rfl g30 (Law15Act.sub_id_ _)) ?_
            refine Dw.pure (i := 57) rfl (by kernel_rfl) (Want.yes rfl rfl rfl rfl) rfl (ltN rfl) (QP.fieldAddr rfl rfl f39_4) ?_
            refine Dw.read (i := 58) rfl (by kernel_rfl) (Want.yes rfl rfl rfl rfl) rfl (ltN rfl) (QR.load rfl rfl g33 (Law15Act.sub_d _)) ?_
            refine Dw.pure (i := 60) rfl (by kernel_rfl) (Want.yes rfl rfl rfl rfl) rfl (ltN rfl) (QP.move rfl rfl) ?_
            refine Dw.pure (i := 61) rfl (by kernel_rfl) (Want.yes rfl rfl rfl rfl) rfl (ltN rfl) (QP.fieldAddr rfl rfl f39_2) ?_
            refine Dw.read (i := 62) rfl (by kernel_rfl) (Want.yes rfl rfl rfl rfl) rfl (ltN rfl) (QR.load rfl rfl g28 (Law15Act.sub_p _)) ?_
            refine Dw.pure (i := 63) rfl (by kernel_rfl) (Want.yes rfl rfl rfl rfl) rfl (ltN rfl) (QP.fieldAddr rfl rfl f39_3) ?_
            refine Dw.read (i := 64) rfl (by kernel_rfl) (Want.yes rfl rfl rfl rfl) rfl (ltN rfl) (QR.load rfl rfl g30 (Law15Act.sub_id_ _)) ?_
            refine Dw.pure (i := 65) rfl (by kernel_rfl) (Want.yes rfl rfl rfl rfl) rfl (ltN rfl) (QP.fieldAddr rfl rfl f39_4) ?_
            refine Dw.read (i := 66) rfl (by kernel_rfl) (Want.yes rfl rfl rfl rfl) rfl (ltN rfl) (QR.load rfl rfl g33 (Law15Act.sub_d _)) ?_
            refine Dw.eff (i := 59) (by kernel_rfl) (by kernel_rfl) ?_
            refine One.mk (o := _) (l := [66, 64, 62]) rfl (by kernel_rfl) (Want.yes rfl rfl rfl rfl) rfl (ltN rfl) (EF.call rfl ce14 rfl (.cons (by repeat (first | exact Pick.head | apply Pick.tail)) Takes.nil) (fun F' hle hr => feasT F' x.p x.id_ x.d)) (by kernel_rfl) ?_
            rintro _ _ ⟨_, ⟨rfl, rfl⟩, rfl⟩
            refine ⟨?_, ?_⟩
            · rw [List.forall_mem_cons, List.forall_mem_cons, List.forall_mem_cons]
              refine ⟨?_, ?_, ?_, fun _ h => (by cases h)⟩
              · refine Look.app ?_
                exact Look.mk rfl rfl rfl (QR.load rfl rfl g33 (Law15Act.sub_d _))
              · refine Look.app ?_
                exact Look.mk rfl rfl rfl (QR.load rfl rfl g30 (Law15Act.sub_id_ _))
              · refine Look.app ?_
                exact Look.mk rfl rfl rfl (QR.load rfl rfl g28 (Law15Act.sub_p _))
            refine ?_
            refine J.app ?_
            refine Dw.eff (i := 67) (by kernel_rfl) (by kernel_rfl) ?_
            refine One.mk (o := _) (l := []) rfl (by kernel_rfl) (Want.yes rfl rfl rfl rfl) rfl (ltN rfl) (EF.call rfl ce25 rfl (.cons (by repeat (first | exact Pick.head | apply Pick.tail)) (.cons (by repeat (first | exact Pick.head | apply Pick.tail)) Takes.nil)) (fun F' hle hr => rfeasible_spec F' hh2 (by omega) (fun y hy => (hgood2 y hy).2.2) x.p x.id_ x.d hxd)) (by kernel_rfl) ?_
            rintro _ _ ⟨_, ⟨rfl, rf, rfl, hrf⟩, rfl⟩
            refine ⟨fun _ h => (by cases h), ?_⟩
            refine J.app ?_
            refine Dw.pure (i := 68) rfl (by kernel_rfl) (Want.yes rfl rfl rfl rfl) rfl (ltN rfl) (QP.neqB rfl rfl rfl Try.underlying4) ?_
            refine J.boolF (by rw [feas_ord hord2 hrf]; simp) ?_
            refine Dw.pure (i := 69) rfl (by kernel_rfl) (Want.none rfl) rfl (ltN rfl) (QP.pick_f rfl rfl rfl) ?_
            refine Dw.nil (by kernel_rfl) ?_
            refine hk30 _ _ ?_
            refine Run.cond_f rfl ?_
            refine Run.skip ?_
            refine hk15 _ _ ?_
            refine Run.region ?_
            show Sq _ _ _ [0, 1, 2] _ _ _ _
            refine Sq.quiet (i := 0) rfl (Want.none rfl) rfl (ltN rfl) (QP.move rfl rfl).read ?_
            refine Sq.quiet (i := 1) rfl (Want.none rfl) rfl (ltN rfl) (QP.add64 rfl rfl rfl (by first | omega | (simp <;> omega)) (by first | omega | (simp <;> omega))).read ?_
            refine Sq.quiet (i := 2) rfl (Want.none rfl) rfl (ltN rfl) (QP.assign rfl rfl).read ?_
            refine Sq.nil ?_
            exact J.envJ (J.keep (.cons (by repeat (first | exact Pick.head | apply Pick.tail)) (.cons (by repeat (first | exact Pick.head | apply Pick.tail)) (.cons (by repeat (first | exact Pick.head | apply Pick.tail)) Takes.nil))) (hl12 (i + 1) (now2) (M2) (L2) (some ⟨b0y, o0y, none⟩) (c3) (⟨by omega, hnn, by omega, hord2, hgood2, hl2, hh2⟩) (by omega))) ⟨rfl, rfl, rfl, rfl, rfl, trivial⟩
        · skip
          refine Sq.quiet (i := 1) rfl (Want.none rfl) rfl (ltN rfl) (QP.assign rfl rfl).read ?_
          refine Sq.nil ?_
          refine hk21 _ _ ?_
          refine Run.cond_f rfl ?_
          refine Run.seq fun k31 hk31 => ?_
          refine Run.region ?_
          show Sq _ _ _ [0, 1] _ _ _ _
          refine Sq.quiet (i := 0) rfl (Want.none rfl) rfl (ltN rfl) (QP.eql rfl rfl rfl).read ?_
          refine J.caseD (fun c72 => ?_) (fun c72 => ?_)
          · skip
            refine Sq.quiet (i := 1) rfl (Want.none rfl) rfl (ltN rfl) (QP.assign rfl rfl).read ?_
            refine Sq.nil ?_
            refine hk31 _ _ ?_
            refine Run.cond_t rfl ?_
            refine Run.region ?_
            show Sq _ _ _ [0, 1, 2, 3, 4, 5, 6, 7] _ _ _ _
            refine Sq.quiet (i := 0) rfl (Want.none rfl) rfl (ltN rfl) (QP.move rfl rfl).read ?_
            refine Sq.quiet (i := 1) rfl (Want.none rfl) rfl (ltN rfl) (QP.move rfl rfl).read ?_
            refine Sq.eff (i := 2) rfl (Want.none rfl) rfl (ltN rfl) (EF.call rfl ce12 rfl (.cons (by repeat (first | exact Pick.head | apply Pick.tail)) Takes.nil) (fun F' hle hr => tickT2 F' hord hMn now2 hnn hn3 hgood)) ?_
            rintro vg1 _ ⟨_, ⟨M2, hord2, rfl⟩, rfl⟩
            refine J.app ?_
            refine Sq.quiet (i := 3) rfl (Want.none rfl) rfl (ltN rfl) (QP.move rfl rfl).read ?_
            refine Sq.quiet (i := 4) rfl (Want.none rfl) rfl (ltN rfl) (QP.move rfl rfl).read ?_
            refine Sq.eff (i := 5) rfl (Want.none rfl) rfl (ltN rfl) (EF.call rfl ce20 rfl (.cons (by repeat (first | exact Pick.head | apply Pick.tail)) (.cons (by repeat (first | exact Pick.head | apply Pick.tail)) Takes.nil)) (fun F' hle hr => rtick_spec F' hh hLn now2 hnn hn2 (fun y hy => ⟨(hgood y hy).1, Int.le_trans (hgood y hy).2.1 hn2⟩))) ?_
            rintro vg2 _ ⟨_, ⟨a3, c3, L2, hh2, hL2, rfl⟩, rfl⟩
            refine J.app ?_
            refine Sq.slCase (v := vg1) (xs := L.filter (oldS now2)) (by repeat (first | exact List.Mem.head _ | apply List.Mem.tail)) (fun av1 cv1 hvv1 hhv1 => ?_)
            subst hvv1
            refine Sq.slCase (v := vg2) (xs := L.filter (oldS now2)) (by repeat (first | exact List.Mem.head _ | apply List.Mem.tail)) (fun av2 cv2 hvv2 hhv2 => ?_)
            subst hvv2
            have hfl : (L.filter (oldS now2)).length ≤ L.length := List.length_filter_le _ _
            have hgood2 : ∀ y ∈ L2, GoodS now2 y := fun y hy => hgood y (List.mem_filter.1 (hL2 ▸ hy)).1
            have hl2 : L2.length ≤ i + 1 := by have := List.length_filter_le (fun s => !oldS now2 s) L; rw [hL2]; omega
            rw [← hL2] at hord2
            refine Sq.eff (i := 6) rfl (Want.none rfl) rfl (ltN rfl) (EF.call rfl ce19 rfl (.cons (by repeat (first | exact Pick.head | apply Pick.tail)) (.cons (by repeat (first | exact Pick.head | apply Pick.tail)) Takes.nil)) (fun F' hle hr => same_spec F' hhv1 hhv2 (by omega) (by omega))) ?_
            rintro _ _ ⟨_, ⟨rfl, rfl⟩, rfl⟩
            refine J.app ?_
            refine J.boolT (by simp) ?_
            refine Sq.quiet (i := 7) rfl (Want.none rfl) rfl (ltN rfl) (QP.assign rfl rfl).read ?_
            refine Sq.nil ?_
            refine hk19 _ _ ?_
            refine Run.seq fun k32 hk32 => ?_
            refine Run.region ?_
            show Sq _ _ _ [0, 1, 2, 3, 4, 5, 6, 7, 8, 9, 10, 11] _ _ _ _
            refine Sq.quiet (i := 0) rfl (Want.none rfl) rfl (ltN rfl) (QP.move rfl rfl).read ?_
            refine Sq.quiet (i := 1) rfl (Want.none rfl) rfl (ltN rfl) (QP.fieldAddr rfl rfl f39_2).read ?_
            refine Sq.quiet (i := 2) rfl (Want.none rfl) rfl (ltN rfl) (QR.load rfl rfl g28 (Law15Act.sub_p _)) ?_
            refine Sq.quiet (i := 3) rfl (Want.none rfl) rfl (ltN rfl) (QP.fieldAddr rfl rfl f39_3).read ?_
            refine Sq.quiet (i := 4) rfl (Want.none rfl) rfl (ltN rfl) (QR.load rfl rfl g30 (Law15Act.sub_id_ _)) ?_
            refine Sq.eff (i := 5) rfl (Want.none rfl) rfl (ltN rfl) (EF.call rfl ce13 rfl (.cons (by repeat (first | exact Pick.head | apply Pick.tail)) Takes.nil) (fun F' hle hr => getT2 F' x.p x.id_)) ?_
            rintro _ _ ⟨_, (⟨h0, rfl, rfl⟩ | ⟨s, h0, rfl, rfl⟩), rfl⟩
            · skip
              refine J.app ?_
              refine Sq.quiet (i := 6) rfl (Want.none rfl) rfl (ltN rfl) (QP.move rfl rfl).read ?_
              refine Sq.quiet (i := 7) rfl (Want.none rfl) rfl (ltN rfl) (QP.extract rfl rfl rfl).read ?_
              refine Sq.quiet (i := 8) rfl (Want.none rfl) rfl (ltN rfl) (QP.extract rfl rfl rfl).read ?_
              refine Sq.eff (i := 9) rfl (Want.none rfl) rfl (ltN rfl) (EF.allocA (l := Source.enc Source.zero) rfl zero45) ?_
              rintro _ _ ⟨b11, rfl, rfl⟩
              refine Sq.act (i := 10) rfl (Want.none rfl) rfl (EF.storeA rfl rfl rfl z45 (SetL.all (Source.enc_len _) (Source.enc_len _)) (Source.enc_cell _)) ?_
              rintro _ _ rfl
              refine Sq.quiet (i := 11) rfl (Want.none rfl) rfl (ltN rfl) (QP.assign rfl rfl).read ?_
              refine Sq.nil ?_
              refine hk32 _ _ ?_
              refine Run.seq fun k33 hk33 => ?_
              refine Run.region ?_
              show Sq _ _ _ [0, 1, 2, 3, 4, 5, 6] _ _ _ _
              refine Sq.quiet (i := 0) rfl (Want.none rfl) rfl (ltN rfl) (QP.move rfl rfl).read ?_
              refine Sq.quiet (i := 1) rfl (Want.none rfl) rfl (ltN rfl) (QP.fieldAddr rfl rfl f39_2).read ?_
              refine Sq.quiet (i := 2) rfl (Want.none rfl) rfl (ltN rfl) (QR.load rfl rfl g28 (Law15Act.sub_p _)) ?_
              refine Sq.quiet (i := 3) rfl (Want.none rfl) rfl (ltN rfl) (QP.fieldAddr rfl rfl f39_3).read ?_
              refine Sq.quiet (i := 4) rfl (Want.none rfl) rfl (ltN rfl) (QR.load rfl rfl g30 (Law15Act.sub_id_ _)) ?_
              refine Sq.eff (i := 5) rfl (Want.none rfl) rfl (ltN rfl) (EF.call rfl ce23 rfl (.cons (by repeat (first | exact Pick.head | apply Pick.tail)) (.cons (by repeat (first | exact Pick.head | apply Pick.tail)) Takes.nil)) (fun F' hle hr => rfind_spec F' hh2 (by omega) x.p x.id_)) ?_
              rintro _ _ ⟨_, ⟨rfl, n115, rfl, hfind⟩, rfl⟩
              refine J.app ?_
              obtain rfl : n115 = -1 := find_none hord2 h0 hfind
              refine Sq.quiet (i := 6) rfl (Want.none rfl) rfl (ltN rfl) (QP.assign rfl rfl).read ?_
              refine Sq.nil ?_
              refine hk33 _ _ ?_
              refine Run.seq fun k34 hk34 => ?_
              refine Run.region ?_
              show Sq _ _ _ [0, 1, 2, 3, 4, 5, 6] _ _ _ _
              refine Sq.quiet (i := 0) rfl (Want.none rfl) rfl (ltN rfl) (QP.move rfl rfl).read ?_
              refine Sq.eff (i := 1) rfl (Want.none rfl) rfl (ltN rfl) (EF.call rfl ce16 rfl (.cons (by repeat (first | exact Pick.head | apply Pick.tail)) Takes.nil) (fun F' hle hr => nextT2 F' hord2 (by rw [← hord2.length]; omega) hn3 hgood2)) ?_
              rintro _ _ ⟨_, ⟨n1, k1_, rfl, hn1x, rfl⟩, rfl⟩
              refine J.app ?_
              refine Sq.quiet (i := 2) rfl (Want.none rfl) rfl (ltN rfl) (QP.move rfl rfl).read ?_
              refine Sq.quiet (i := 3) rfl (Want.none rfl) rfl (ltN rfl) (QP.extract rfl rfl rfl).read ?_
              refine Sq.quiet (i := 4) rfl (Want.none rfl) rfl (ltN rfl) (QP.extract rfl rfl rfl).read ?_
              refine Sq.quiet (i := 5) rfl (Want.none rfl) rfl (ltN rfl) (QP.assign rfl rfl).read ?_
              refine Sq.quiet (i := 6) rfl (Want.none rfl) rfl (ltN rfl) (QP.assign rfl rfl).read ?_
              refine Sq.nil ?_
              refine hk34 _ _ ?_
              refine Run.seq fun k35 hk35 => ?_
              refine Run.region ?_
              show Sq _ _ _ [0, 1, 2, 3, 4, 5, 6] _ _ _ _
              refine Sq.quiet (i := 0) rfl (Want.none rfl) rfl (ltN rfl) (QP.move rfl rfl).read ?_
              refine Sq.eff (i := 1) rfl (Want.none rfl) rfl (ltN rfl) (EF.call rfl ce24 rfl (.cons (by repeat (first | exact Pick.head | apply Pick.tail)) (.cons (by repeat (first | exact Pick.head | apply Pick.tail)) Takes.nil)) (fun F' hle hr => rnext_spec F' hh2 (by omega) (fun y hy => ⟨(hgood2 y hy).1, Int.le_trans (hgood2 y hy).2.1 hn2⟩))) ?_
              rintro _ _ ⟨_, ⟨rfl, m2, k2_, rfl, hn2x⟩, rfl⟩
              refine J.app ?_
              refine Sq.quiet (i := 2) rfl (Want.none rfl) rfl (ltN rfl) (QP.move rfl rfl).read ?_
              refine Sq.quiet (i := 3) rfl (Want.none rfl) rfl (ltN rfl) (QP.extract rfl rfl rfl).read ?_
              refine Sq.quiet (i := 4) rfl (Want.none rfl) rfl (ltN rfl) (QP.extract rfl rfl rfl).read ?_
              refine Sq.quiet (i := 5) rfl (Want.none rfl) rfl (ltN rfl) (QP.assign rfl rfl).read ?_
              refine Sq.quiet (i := 6) rfl (Want.none rfl) rfl (ltN rfl) (QP.assign rfl rfl).read ?_
              refine Sq.nil ?_
              refine hk35 _ _ ?_
              refine Run.seq fun k36 hk36 => ?_
              refine Run.regionD (M := [0, 1, 3, 7, 15, 7, 39, 103, 231, 511, 1023, 2047, 4095, 8191, 8191, 24575, 65535, 131071, 262143, 524287, 1048575, 2097151, 2097151, 6291455, 14680063, 31457279, 2097151, 132120575, 266338303, 536870911, 1073741823, 2147483647, 4294967295, 8589934591, 17179869183, 34359738367, 68719476735, 68719476735, 274877906943, 549755813887, 1099511627775, 2199023255551, 4398046511103, 4398046511103, 17592186044415, 35184372088831, 70368744177663, 140737488355327, 140737488355327, 562949953421311, 1125899906842623, 2251799813685247, 4503599627370495, 4503599627370495, 13510798882111487, 4503599627370495, 40532396646334463, 4503599627370495, 148618787703226367, 576460752303423487, 4503599627370495, 4503599627370495, 2310346608841064447, 4503599627370495, 9227875636482146303, 4503599627370495, 36897991747046473727, 147573952589676412927, 295147905179352825855, 590295810358705651711]) (q := 1032441207375431466479) (r := 97223708824697831680) (by kernel_rfl) ?_
              refine Dw.pure (i := 0) rfl (by kernel_rfl) (Want.none rfl) rfl (ltN rfl) (QP.move rfl rfl) ?_
              refine Dw.pure (i := 1) rfl (by kernel_rfl) (Want.none rfl) rfl (ltN rfl) (QP.not rfl rfl) ?_
              refine Dw.pure (i := 2) rfl (by kernel_rfl) (Want.none rfl) rfl (ltN rfl) (QP.move rfl rfl) ?_
              refine Dw.pure (i := 3) rfl (by kernel_rfl) (Want.yes rfl rfl rfl rfl) rfl (ltN rfl) (QP.move rfl rfl) ?_
              refine Dw.pure (i := 5) rfl (by kernel_rfl) (Want.yes rfl rfl rfl rfl) rfl (ltN rfl) (QP.move rfl rfl) ?_
              refine Dw.pure (i := 6) rfl (by kernel_rfl) (Want.yes rfl rfl rfl rfl) rfl (ltN rfl) (QP.nilCheck rfl rfl) ?_
              refine Dw.pure (i := 7) rfl (by kernel_rfl) (Want.yes rfl rfl rfl rfl) rfl (ltN rfl) (QP.fieldAddr rfl rfl f56_1) ?_
              refine Dw.read (i := 8) rfl (by kernel_rfl) (Want.yes rfl rfl rfl rfl) rfl (ltN rfl) (QR.load1 (v := .slice _ L2.length _) rfl rfl g42 (Ref15Table.sub_l _)) ?_
              refine Dw.eff (i := 4) (by kernel_rfl) (by kernel_rfl) ?_
              refine One.mk (o := _) (l := [8]) rfl (by kernel_rfl) (Want.yes rfl rfl rfl rfl) rfl (ltN rfl) (EF.call rfl ce15 rfl (.cons (by repeat (first | exact Pick.head | apply Pick.tail)) Takes.nil) (fun F' hle hr => listT2 F' hord2 (by rw [← hord2.length]; omega))) (by kernel_rfl) ?_
              rintro v130 _ ⟨_, rfl, rfl⟩
              refine ⟨?_, ?_⟩
              · rw [List.forall_mem_cons]
                refine ⟨?_, fun _ h => (by cases h)⟩
                · refine Look.app ?_
                  exact Look.mk rfl rfl rfl (QR.load1 (v := .slice _ L2.length _) rfl rfl g42 (Ref15Table.sub_l _))
              refine ?_
              refine J.app ?_
              refine Dw.slCase (v := v130) (xs := L2) (by repeat (first | exact List.Mem.head _ | apply List.Mem.tail)) (fun a130 c130 hv130 hh130 => ?_)
              subst hv130
              refine Dw.eff (i := 9) (by kernel_rfl) (by kernel_rfl) ?_
              refine One.mk (o := _) (l := []) rfl (by kernel_rfl) (Want.yes rfl rfl rfl rfl) rfl (ltN rfl) (EF.call rfl ce19 rfl (.cons (by repeat (first | exact Pick.head | apply Pick.tail)) (.cons (by repeat (first | exact Pick.head | apply Pick.tail)) Takes.nil)) (fun F' hle hr => same_spec F' hh130 hh2 (by omega) (by omega))) (by kernel_rfl) ?_
              rintro _ _ ⟨_, ⟨rfl, rfl⟩, rfl⟩
              refine ⟨fun _ h => (by cases h), ?_⟩
              refine J.app ?_
              refine J.boolT (by simp) ?_
              refine Dw.pure (i := 10) rfl (by kernel_rfl) (Want.yes rfl rfl rfl rfl) rfl (ltN rfl) (QP.not rfl rfl) ?_
              refine Dw.pure (i := 11) rfl (by kernel_rfl) (Want.none rfl) rfl (ltN rfl) (QP.pick_f rfl rfl rfl) ?_
              refine Dw.pure (i := 12) rfl (by kernel_rfl) (Want.none rfl) rfl (ltN rfl) (QP.move rfl rfl) ?_
              refine Dw.pure (i := 13) rfl (by kernel_rfl) (Want.yes rfl rfl rfl rfl) rfl (ltN rfl) (QP.move rfl rfl) ?_
              refine Dw.pure (i := 14) rfl (by kernel_rfl) (Want.yes rfl rfl rfl rfl) rfl (ltN rfl) (QP.move rfl rfl) ?_
              refine Dw.pure (i := 15) rfl (by kernel_rfl) (Want.yes rfl rfl rfl rfl) rfl (ltN rfl) (QP.geq rfl rfl rfl) ?_
              refine J.decF (by omega) ?_
              refine Dw.pure (i := 16) rfl (by kernel_rfl) (Want.yes rfl rfl rfl rfl) rfl (ltN rfl) (QP.neqB rfl rfl rfl Try.underlying4) ?_
              refine J.boolF (rfl) ?_
              refine Dw.pure (i := 17) rfl (by kernel_rfl) (Want.none rfl) rfl (ltN rfl) (QP.pick_f rfl rfl rfl) ?_
              refine Dw.pure (i := 18) rfl (by kernel_rfl) (Want.none rfl) rfl (ltN rfl) (QP.move rfl rfl) ?_
              refine Dw.pure (i := 19) rfl (by kernel_rfl) (Want.yes rfl rfl rfl rfl) rfl (ltN rfl) (QP.move rfl rfl) ?_
              refine Dw.pure (i := 20) rfl (by kernel_rfl) (Want.yes rfl rfl rfl rfl) rfl (ltN rfl) (QP.move rfl rfl) ?_
              refine Dw.skip (i := 21) rfl (by kernel_rfl) (Want.no rfl rfl rfl rfl) rfl (ltN rfl) ?_
              refine Dw.skip (i := 22) rfl (by kernel_rfl) (Want.no rfl rfl rfl rfl) rfl (ltN rfl) ?_
              refine Dw.skip (i := 23) rfl (by kernel_rfl) (Want.no rfl rfl rfl rfl) rfl (ltN rfl) ?_
              refine Dw.skip (i := 24) rfl (by kernel_rfl) (Want.no rfl rfl rfl rfl) rfl (ltN rfl) ?_
              refine Dw.skip (i := 25) rfl (by kernel_rfl) (Want.no rfl rfl rfl rfl) rfl (ltN rfl) ?_
              refine Dw.skip (i := 26) rfl (by kernel_rfl) (Want.no rfl rfl rfl rfl) rfl (ltN rfl) ?_
              refine Dw.skip (i := 27) rfl (by kernel_rfl) (Want.no rfl rfl rfl rfl) rfl (ltN rfl) ?_
              refine Dw.skip (i := 28) rfl (by kernel_rfl) (Want.no rfl rfl rfl rfl) rfl (ltN rfl) ?_
              refine Dw.skip (i := 29) rfl (by kernel_rfl) (Want.no rfl rfl rfl rfl) rfl (ltN rfl) ?_
              refine Dw.pure (i := 30) rfl (by kernel_rfl) (Want.yes rfl rfl rfl rfl) rfl (ltN rfl) (QP.pick_f rfl rfl rfl) ?_
              refine Dw.pure (i := 31) rfl (by kernel_rfl) (Want.none rfl) rfl (ltN rfl) (QP.pick_f rfl rfl rfl) ?_
              refine Dw.pure (i := 32) rfl (by kernel_rfl) (Want.none rfl) rfl (ltN rfl) (QP.move rfl rfl) ?_
              refine Dw.pure (i := 33) rfl (by kernel_rfl) (Want.yes rfl rfl rfl rfl) rfl (ltN rfl) (QP.move rfl rfl) ?_
              refine Dw.pure (i := 34) rfl (by kernel_rfl) (Want.yes rfl rfl rfl rfl) rfl (ltN rfl) (QP.not rfl rfl) ?_
              refine Dw.pure (i := 35) rfl (by kernel_rfl) (Want.yes rfl rfl rfl rfl) rfl (ltN rfl) (QP.move rfl rfl) ?_
              refine Dw.read (i := 36) rfl (by kernel_rfl) (Want.yes rfl rfl rfl rfl) rfl (ltN rfl) (QR.load rfl rfl g45 (Source.enc_sub _)) ?_
              refine Dw.pure (i := 37) rfl (by kernel_rfl) (Want.yes rfl rfl rfl rfl) rfl (ltN rfl) (QP.build (l := Source.enc Source.zero) rfl st45 rfl (by exact trivial) rfl) ?_
              refine Dw.pure (i := 38) rfl (by kernel_rfl) (Want.yes rfl rfl rfl rfl) rfl (ltN rfl) (QP.neq_agg eq45 rfl rfl rfl) ?_
              refine J.decF (by simp) ?_
              refine Dw.pure (i := 39) rfl (by kernel_rfl) (Want.yes rfl rfl rfl rfl) rfl (ltN rfl) (QP.pick_t rfl rfl rfl) ?_
              refine Dw.pure (i := 40) rfl (by kernel_rfl) (Want.none rfl) rfl (ltN rfl) (QP.pick_f rfl rfl rfl) ?_
              refine Dw.pure (i := 41) rfl (by kernel_rfl) (Want.none rfl) rfl (ltN rfl) (QP.move rfl rfl) ?_
              refine Dw.pure (i := 42) rfl (by kernel_rfl) (Want.yes rfl rfl rfl rfl) rfl (ltN rfl) (QP.move rfl rfl) ?_
              refine Dw.pure (i := 43) rfl (by kernel_rfl) (Want.yes rfl rfl rfl rfl) rfl (ltN rfl) (QP.move rfl rfl) ?_
              refine Dw.pure (i := 44) rfl (by kernel_rfl) (Want.yes rfl rfl rfl rfl) rfl (ltN rfl) (QP.neq rfl rfl rfl) ?_
              refine J.decF (by simp [(hn1x.uniq hn2x).1]) ?_
              refine Dw.pure (i := 45) rfl (by kernel_rfl) (Want.none rfl) rfl (ltN rfl) (QP.pick_f rfl rfl rfl) ?_
              refine Dw.pure (i := 46) rfl (by kernel_rfl) (Want.none rfl) rfl (ltN rfl) (QP.move rfl rfl) ?_
              refine Dw.pure (i := 47) rfl (by kernel_rfl) (Want.yes rfl rfl rfl rfl) rfl (ltN rfl) (QP.move rfl rfl) ?_
              refine Dw.pure (i := 48) rfl (by kernel_rfl) (Want.yes rfl rfl rfl rfl) rfl (ltN rfl) (QP.move rfl rfl) ?_
              refine Dw.pure (i := 49) rfl (by kernel_rfl) (Want.yes rfl rfl rfl rfl) rfl (ltN rfl) (QP.neqB rfl rfl rfl Try.underlying4) ?_
              refine J.boolF (by simp [(hn1x.uniq hn2x).2]) ?_
              refine Dw.pure (i := 50) rfl (by kernel_rfl) (Want.none rfl) rfl (ltN rfl) (QP.pick_f rfl rfl rfl) ?_
              refine Dw.pure (i := 51) rfl (by kernel_rfl) (Want.none rfl) rfl (ltN rfl) (QP.move rfl rfl) ?_
              refine Dw.pure (i := 52) rfl (by kernel_rfl) (Want.yes rfl rfl rfl rfl) rfl (ltN rfl) (QP.move rfl rfl) ?_
              refine Dw.pure (i := 53) rfl (by kernel_rfl) (Want.yes rfl rfl rfl rfl) rfl (ltN rfl) (QP.fieldAddr rfl rfl f39_2) ?_
              refine Dw.read (i := 54) rfl (by kernel_rfl) (Want.yes rfl rfl rfl rfl) rfl (ltN rfl) (QR.load rfl rfl g28 (Law15Act.sub_p _)) ?_
              refine Dw.pure (i := 55) rfl (by kernel_rfl) (Want.yes rfl rfl rfl rfl) rfl (ltN rfl) (QP.fieldAddr rfl rfl f39_3) ?_
              refine Dw.read (i := 56) rfl (by kernel_rfl) (Want.yes rfl rfl rfl rfl) rfl (ltN rfl) (QR.load rfl rfl g30 (Law15Act.sub_id_ _)) ?_
              refine Dw.pure (i := 57) rfl (by kernel_rfl) (Want.yes rfl rfl rfl rfl) rfl (ltN rfl) (QP.fieldAddr rfl rfl f39_4) ?_
              refine Dw.read (i := 58) rfl (by kernel_rfl) (Want.yes rfl rfl rfl rfl) rfl (ltN rfl) (QR.load rfl rfl g33 (Law15Act.sub_d _)) ?_
              refine Dw.pure (i := 60) rfl (by kernel_rfl) (Want.yes rfl rfl rfl rfl) rfl (ltN rfl) (QP.move rfl rfl) ?_
              refine Dw.pure (i := 61) rfl (by kernel_rfl) (Want.yes rfl rfl rfl rfl) rfl (ltN rfl) (QP.fieldAddr rfl rfl f39_2) ?_
              refine Dw.read (i := 62) rfl (by kernel_rfl) (Want.yes rfl rfl rfl rfl) rfl (ltN rfl) (QR.load rfl rfl g28 (Law15Act.sub_p _)) ?_
              refine Dw.pure (i := 63) rfl (by kernel_rfl) (Want.yes rfl rfl rfl rfl) rfl (ltN rfl) (QP.fieldAddr rfl rfl f39_3) ?_
              refine Dw.read (i := 64) rfl (by kernel_rfl) (Want.yes rfl rfl rfl rfl) rfl (ltN rfl) (QR.load rfl rfl g30 (Law15Act.sub_id_ _)) ?_
              refine Dw.pure (i := 65) rfl (by kernel_rfl) (Want.yes rfl rfl rfl rfl) rfl (ltN rfl) (QP.fieldAddr rfl rfl f39_4) ?_
              refine Dw.read (i := 66) rfl (by kernel_rfl) (Want.yes rfl rfl rfl rfl) rfl (ltN rfl) (QR.load rfl rfl g33 (Law15Act.sub_d _)) ?_
              refine Dw.eff (i := 59) (by kernel_rfl) (by kernel_rfl) ?_
              refine One.mk (o := _) (l := [66, 64, 62]) rfl (by kernel_rfl) (Want.yes rfl rfl rfl rfl) rfl (ltN rfl) (EF.call rfl ce14 rfl (.cons (by repeat (first | exact Pick.head | apply Pick.tail)) Takes.nil) (fun F' hle hr => feasT F' x.p x.id_ x.d)) (by kernel_rfl) ?_
              rintro _ _ ⟨_, ⟨rfl, rfl⟩, rfl⟩
              refine ⟨?_, ?_⟩
              · rw [List.forall_mem_cons, List.forall_mem_cons, List.forall_mem_cons]
                refine ⟨?_, ?_, ?_, fun _ h => (by cases h)⟩
                · refine Look.app ?_
                  exact Look.mk rfl rfl rfl (QR.load rfl rfl g33 (Law15Act.sub_d _))
                · refine Look.app ?_
                  exact Look.mk rfl rfl rfl (QR.load rfl rfl g30 (Law15Act.sub_id_ _))
                · refine Look.app ?_
                  exact Look.mk rfl rfl rfl (QR.load rfl rfl g28 (Law15Act.sub_p _))
              refine ?_
              refine J.app ?_
              refine Dw.eff (i := 67) (by kernel_rfl) (by kernel_rfl) ?_
              refine One.mk (o := _) (l := []) rfl (by kernel_rfl) (Want.yes rfl rfl rfl rfl) rfl (ltN rfl) (EF.call rfl ce25 rfl (.cons (by repeat (first | exact Pick.head | apply Pick.tail)) (.cons (by repeat (first | exact Pick.head | apply Pick.tail)) Takes.nil)) (fun F' hle hr => rfeasible_spec F' hh2 (by omega) (fun y hy => (hgood2 y hy).2.2) x.p x.id_ x.d hxd)) (by kernel_rfl) ?_
              rintro _ _ ⟨_, ⟨rfl, rf, rfl, hrf⟩, rfl⟩
              refine ⟨fun _ h => (by cases h), ?_⟩
              refine J.app ?_
              refine Dw.pure (i := 68) rfl (by kernel_rfl) (Want.yes rfl rfl rfl rfl) rfl (ltN rfl) (QP.neqB rfl rfl rfl Try.underlying4) ?_
              refine J.boolF (by rw [feas_ord hord2 hrf]; simp) ?_
              refine Dw.pure (i := 69) rfl (by kernel_rfl) (Want.none rfl) rfl (ltN rfl) (QP.pick_f rfl rfl rfl) ?_
              refine Dw.nil (by kernel_rfl) ?_
              refine hk36 _ _ ?_
              refine Run.cond_f rfl ?_
              refine Run.skip ?_
              refine hk15 _ _ ?_
              refine Run.region ?_
              show Sq _ _ _ [0, 1, 2] _ _ _ _
              refine Sq.quiet (i := 0) rfl (Want.none rfl) rfl (ltN rfl) (QP.move rfl rfl).read ?_
              refine Sq.quiet (i := 1) rfl (Want.none rfl) rfl (ltN rfl) (QP.add64 rfl rfl rfl (by first | omega | (simp <;> omega)) (by first | omega | (simp <;> omega))).read ?_
              refine Sq.quiet (i := 2) rfl (Want.none rfl) rfl (ltN rfl) (QP.assign rfl rfl).read ?_
              refine Sq.nil ?_
              exact J.envJ (J.keep (.cons (by repeat (first | exact Pick.head | apply Pick.tail)) (.cons (by repeat (first | exact Pick.head | apply Pick.tail)) (.cons (by repeat (first | exact Pick.head | apply Pick.tail)) Takes.nil))) (hl12 (i + 1) (now2) (M2) (L2) (a3) (c3) (⟨by omega, hnn, by omega, hord2, hgood2, hl2, hh2⟩) (by omega))) ⟨rfl, rfl, rfl, rfl, rfl, trivial⟩
            · skip
              refine J.app ?_
              refine Sq.quiet (i := 6) rfl (Want.none rfl) rfl (ltN rfl) (QP.move rfl rfl).read ?_
              refine Sq.quiet (i := 7) rfl (Want.none rfl) rfl (ltN rfl) (QP.extract rfl rfl rfl).read ?_
              refine Sq.quiet (i := 8) rfl (Want.none rfl) rfl (ltN rfl) (QP.extract rfl rfl rfl).read ?_
              refine Sq.eff (i := 9) rfl (Want.none rfl) rfl (ltN rfl) (EF.allocA (l := Source.enc Source.zero) rfl zero45) ?_
              rintro _ _ ⟨b11, rfl, rfl⟩
              refine Sq.act (i := 10) rfl (Want.none rfl) rfl (EF.storeA rfl rfl rfl z45 (SetL.all (Source.enc_len _) (Source.enc_len _)) (Source.enc_cell _)) ?_
              rintro _ _ rfl
              refine Sq.quiet (i := 11) rfl (Want.none rfl) rfl (ltN rfl) (QP.assign rfl rfl).read ?_
              refine Sq.nil ?_
              refine hk32 _ _ ?_
              refine Run.seq fun k37 hk37 => ?_
              refine Run.region ?_
              show Sq _ _ _ [0, 1, 2, 3, 4, 5, 6] _ _ _ _
              refine Sq.quiet (i := 0) rfl (Want.none rfl) rfl (ltN rfl) (QP.move rfl rfl).read ?_
              refine Sq.quiet (i := 1) rfl (Want.none rfl) rfl (ltN rfl) (QP.fieldAddr rfl rfl f39_2).read ?_
              refine Sq.quiet (i := 2) rfl (Want.none rfl) rfl (ltN rfl) (QR.load rfl rfl g28 (Law15Act.sub_p _)) ?_
              refine Sq.quiet (i := 3) rfl (Want.none rfl) rfl (ltN rfl) (QP.fieldAddr rfl rfl f39_3).read ?_
              refine Sq.quiet (i := 4) rfl (Want.none rfl) rfl (ltN rfl) (QR.load rfl rfl g30 (Law15Act.sub_id_ _)) ?_
              refine Sq.eff (i := 5) rfl (Want.none rfl) rfl (ltN rfl) (EF.call rfl ce23 rfl (.cons (by repeat (first | exact Pick.head | apply Pick.tail)) (.cons (by repeat (first | exact Pick.head | apply Pick.tail)) Takes.nil)) (fun F' hle hr => rfind_spec F' hh2 (by omega) x.p x.id_)) ?_
              rintro _ _ ⟨_, ⟨rfl, n115, rfl, hfind⟩, rfl⟩
              refine J.app ?_
              obtain ⟨ky, rfl, hky⟩ : ∃ ky : Nat, n115 = ky ∧ L2[ky]? = some s := find_some hord2 h0 hfind
              have hkl : ky < L2.length := (List.getElem?_eq_some_iff.1 hky).1
              refine Sq.quiet (i := 6) rfl (Want.none rfl) rfl (ltN rfl) (QP.assign rfl rfl).read ?_
              refine Sq.nil ?_
              refine hk37 _ _ ?_
              refine Run.seq fun k38 hk38 => ?_
              refine Run.region ?_
              show Sq _ _ _ [0, 1, 2, 3, 4, 5, 6] _ _ _ _
              refine Sq.quiet (i := 0) rfl (Want.none rfl) rfl (ltN rfl) (QP.move rfl rfl).read ?_
              refine Sq.eff (i := 1) rfl (Want.none rfl) rfl (ltN rfl) (EF.call rfl ce16 rfl (.cons (by repeat (first | exact Pick.head | apply Pick.tail)) Takes.nil) (fun F' hle hr => nextT2 F' hord2 (by rw [← hord2.length]; omega) hn3 hgood2)) ?_
              rintro _ _ ⟨_, ⟨n1, k1_, rfl, hn1x, rfl⟩, rfl⟩
              refine J.app ?_
              refine Sq.quiet (i := 2) rfl (Want.none rfl) rfl (ltN rfl) (QP.move rfl rfl).read ?_
              refine Sq.quiet (i := 3) rfl (Want.none rfl) rfl (ltN rfl) (QP.extract rfl rfl rfl).read ?_
              refine Sq.quiet (i := 4) rfl (Want.none rfl) rfl (ltN rfl) (QP.extract rfl rfl rfl).read ?_
              refine Sq.quiet (i := 5) rfl (Want.none rfl) rfl (ltN rfl) (QP.assign rfl rfl).read ?_
              refine Sq.quiet (i := 6) rfl (Want.none rfl) rfl (ltN rfl) (QP.assign rfl rfl).read ?_
              refine Sq.nil ?_
              refine hk38 _ _ ?_
              refine Run.seq fun k39 hk39 => ?_
              refine Run.region ?_
              show Sq _ _ _ [0, 1, 2, 3, 4, 5, 6] _ _ _ _
              refine Sq.quiet (i := 0) rfl (Want.none rfl) rfl (ltN rfl) (QP.move rfl rfl).read ?_
              refine Sq.eff (i := 1) rfl (Want.none rfl) rfl (ltN rfl) (EF.call rfl ce24 rfl (.cons (by repeat (first | exact Pick.head | apply Pick.tail)) (.cons (by repeat (first | exact Pick.head | apply Pick.tail)) Takes.nil)) (fun F' hle hr => rnext_spec F' hh2 (by omega) (fun y hy => ⟨(hgood2 y hy).1, Int.le_trans (hgood2 y hy).2.1 hn2⟩))) ?_
              rintro _ _ ⟨_, ⟨rfl, m2, k2_, rfl, hn2x⟩, rfl⟩
              refine J.app ?_
              refine Sq.quiet (i := 2) rfl (Want.none rfl) rfl (ltN rfl) (QP.move rfl rfl).read ?_
              refine Sq.quiet (i := 3) rfl (Want.none rfl) rfl (ltN rfl) (QP.extract rfl rfl rfl).read ?_
              refine Sq.quiet (i := 4) rfl (Want.none rfl) rfl (ltN rfl) (QP.extract rfl rfl rfl).read ?_
              refine Sq.quiet (i := 5) rfl (Want.none rfl) rfl (ltN rfl) (QP.assign rfl rfl).read ?_
              refine Sq.quiet (i := 6) rfl (Want.none rfl) rfl (ltN rfl) (QP.assign rfl rfl).read ?_
              refine Sq.nil ?_
              refine hk39 _ _ ?_
              refine Run.seq fun k40 hk40 => ?_
              refine Run.regionD (M := [0, 1, 3, 7, 15, 7, 39, 103, 231, 511, 1023, 2047, 4095, 8191, 8191, 24575, 65535, 131071, 262143, 524287, 1048575, 2097151, 2097151, 6291455, 14680063, 31457279, 2097151, 132120575, 266338303, 536870911, 1073741823, 2147483647, 4294967295, 8589934591, 17179869183, 34359738367, 68719476735, 68719476735, 274877906943, 549755813887, 1099511627775, 2199023255551, 4398046511103, 4398046511103, 17592186044415, 35184372088831, 70368744177663, 140737488355327, 140737488355327, 562949953421311, 1125899906842623, 2251799813685247, 4503599627370495, 4503599627370495, 13510798882111487, 4503599627370495, 40532396646334463, 4503599627370495, 148618787703226367, 576460752303423487, 4503599627370495, 4503599627370495, 2310346608841064447, 4503599627370495, 9227875636482146303, 4503599627370495, 36897991747046473727, 147573952589676412927, 295147905179352825855, 590295810358705651711]) (q := 1032441207375431466479) (r := 97223708824697831680) (by kernel_rfl) ?_
              refine Dw.pure (i := 0) rfl (by kernel_rfl) (Want.none rfl) rfl (ltN rfl) (QP.move rfl rfl) ?_
              refine Dw.pure (i := 1) rfl (by kernel_rfl) (Want.none rfl) rfl (ltN rfl) (QP.not rfl rfl) ?_
              refine Dw.pure (i := 2) rfl (by kernel_rfl) (Want.none rfl) rfl (ltN rfl) (QP.move rfl rfl) ?_
              refine Dw.pure (i := 3) rfl (by kernel_rfl) (Want.yes rfl rfl rfl rfl) rfl (ltN rfl) (QP.move rfl rfl) ?_
              refine Dw.pure (i := 5) rfl (by kernel_rfl) (Want.yes rfl rfl rfl rfl) rfl (ltN rfl) (QP.move rfl rfl) ?_
              refine Dw.pure (i := 6) rfl (by kernel_rfl) (Want.yes rfl rfl rfl rfl) rfl (ltN rfl) (QP.nilCheck rfl rfl) ?_
              refine Dw.pure (i := 7) rfl (by kernel_rfl) (Want.yes rfl rfl rfl rfl) rfl (ltN rfl) (QP.fieldAddr rfl rfl f56_1) ?_
              refine Dw.read (i := 8) rfl (by kernel_rfl) (Want.yes rfl rfl rfl rfl) rfl (ltN rfl) (QR.load1 (v := .slice _ L2.length _) rfl rfl g42 (Ref15Table.sub_l _)) ?_
              refine Dw.eff (i := 4) (by kernel_rfl) (by kernel_rfl) ?_
              refine One.mk (o := _) (l := [8]) rfl (by kernel_rfl) (Want.yes rfl rfl rfl rfl) rfl (ltN rfl) (EF.call rfl ce15 rfl (.cons (by repeat (first | exact Pick.head | apply Pick.tail)) Takes.nil) (fun F' hle hr => listT2 F' hord2 (by rw [← hord2.length]; omega))) (by kernel_rfl) ?_
              rintro v130 _ ⟨_, rfl, rfl⟩
              refine ⟨?_, ?_⟩
              · rw [List.forall_mem_cons]
                refine ⟨?_, fun _ h => (by cases h)⟩
                · refine Look.app ?_
                  exact Look.mk rfl rfl rfl (QR.load1 (v := .slice _ L2.length _) rfl rfl g42 (Ref15Table.sub_l _))
              refine ?_
              refine J.app ?_
              refine Dw.slCase (v := v130) (xs := L2) (by repeat (first | exact List.Mem.head _ | apply List.Mem.tail)) (fun a130 c130 hv130 hh130 => ?_)
              subst hv130
              refine Dw.eff (i := 9) (by kernel_rfl) (by kernel_rfl) ?_
              refine One.mk (o := _) (l := []) rfl (by kernel_rfl) (Want.yes rfl rfl rfl rfl) rfl (ltN rfl) (EF.call rfl ce19 rfl (.cons (by repeat (first | exact Pick.head | apply Pick.tail)) (.cons (by repeat (first | exact Pick.head | apply Pick.tail)) Takes.nil)) (fun F' hle hr => same_spec F' hh130 hh2 (by omega) (by omega))) (by kernel_rfl) ?_
              rintro _ _ ⟨_, ⟨rfl, rfl⟩, rfl⟩
              refine ⟨fun _ h => (by cases h), ?_⟩
              refine J.app ?_
              refine J.boolT (by simp) ?_
              refine Dw.pure (i := 10) rfl (by kernel_rfl) (Want.yes rfl rfl rfl rfl) rfl (ltN rfl) (QP.not rfl rfl) ?_
              refine Dw.pure (i := 11) rfl (by kernel_rfl) (Want.none rfl) rfl (ltN rfl) (QP.pick_f rfl rfl rfl) ?_
              refine Dw.pure (i := 12) rfl (by kernel_rfl) (Want.none rfl) rfl (ltN rfl) (QP.move rfl rfl) ?_
              refine Dw.pure (i := 13) rfl (by kernel_rfl) (Want.yes rfl rfl rfl rfl) rfl (ltN rfl) (QP.move rfl rfl) ?_
              refine Dw.pure (i := 14) rfl (by kernel_rfl) (Want.yes rfl rfl rfl rfl) rfl (ltN rfl) (QP.move rfl rfl) ?_
              refine Dw.pure (i := 15) rfl (by kernel_rfl) (Want.yes rfl rfl rfl rfl) rfl (ltN rfl) (QP.geq rfl rfl rfl) ?_
              refine J.decT (by omega) ?_
              refine Dw.pure (i := 16) rfl (by kernel_rfl) (Want.yes rfl rfl rfl rfl) rfl (ltN rfl) (QP.neqB rfl rfl rfl Try.underlying4) ?_
              refine J.boolF (rfl) ?_
              refine Dw.pure (i := 17) rfl (by kernel_rfl) (Want.none rfl) rfl (ltN rfl) (QP.pick_f rfl rfl rfl) ?_
              refine Dw.pure (i := 18) rfl (by kernel_rfl) (Want.none rfl) rfl (ltN rfl) (QP.move rfl rfl) ?_
              refine Dw.pure (i := 19) rfl (by kernel_rfl) (Want.yes rfl rfl rfl rfl) rfl (ltN rfl) (QP.move rfl rfl) ?_
              refine Dw.pure (i := 20) rfl (by kernel_rfl) (Want.yes rfl rfl rfl rfl) rfl (ltN rfl) (QP.move rfl rfl) ?_
              refine Dw.read (i := 21) rfl (by kernel_rfl) (Want.yes rfl rfl rfl rfl) rfl (ltN rfl) (QR.load rfl rfl g45 (Source.enc_sub _)) ?_
              refine Dw.pure (i := 22) rfl (by kernel_rfl) (Want.yes rfl rfl rfl rfl) rfl (ltN rfl) (QP.move rfl rfl) ?_
              refine Dw.pure (i := 23) rfl (by kernel_rfl) (Want.yes rfl rfl rfl rfl) rfl (ltN rfl) (QP.nilCheck rfl rfl) ?_
              refine Dw.pure (i := 24) rfl (by kernel_rfl) (Want.yes rfl rfl rfl rfl) rfl (ltN rfl) (QP.fieldAddr rfl rfl f56_1) ?_
              refine Dw.read (i := 25) rfl (by kernel_rfl) (Want.yes rfl rfl rfl rfl) rfl (ltN rfl) (QR.load1 (v := .slice _ L2.length _) rfl rfl g42 (Ref15Table.sub_l _)) ?_
              refine Dw.pure (i := 26) rfl (by kernel_rfl) (Want.yes rfl rfl rfl rfl) rfl (ltN rfl) (QP.move rfl rfl) ?_
              obtain ⟨b0y, o0y, rfl⟩ := hh2.get (by omega)
              refine Dw.pure (i := 27) rfl (by kernel_rfl) (Want.yes rfl rfl rfl rfl) rfl (ltN rfl) (QP.indexAddr rfl rfl rfl Try.underlying42 z45 (by first | omega | (simp <;> omega)) (by first | omega | (simp <;> omega))) ?_
              refine Dw.read (i := 28) rfl (by kernel_rfl) (Want.yes rfl rfl rfl rfl) rfl (ltN rfl) (QR.loadSl rfl rfl g45 Source.enc_len (SlAt.own Source.enc_len (by repeat (first | exact List.Mem.head _ | apply List.Mem.tail))) hky) ?_
              refine Dw.pure (i := 29) rfl (by kernel_rfl) (Want.yes rfl rfl rfl rfl) rfl (ltN rfl) (QP.neq_agg eq45 rfl rfl rfl) ?_
              refine J.decF (by simp) ?_
              refine Dw.pure (i := 30) rfl (by kernel_rfl) (Want.yes rfl rfl rfl rfl) rfl (ltN rfl) (QP.pick_t rfl rfl rfl) ?_
              refine Dw.pure (i := 31) rfl (by kernel_rfl) (Want.none rfl) rfl (ltN rfl) (QP.pick_f rfl rfl rfl) ?_
              refine Dw.pure (i := 32) rfl (by kernel_rfl) (Want.none rfl) rfl (ltN rfl) (QP.move rfl rfl) ?_
              refine Dw.pure (i := 33) rfl (by kernel_rfl) (Want.yes rfl rfl rfl rfl) rfl (ltN rfl) (QP.move rfl rfl) ?_
              refine Dw.pure (i := 34) rfl (by kernel_rfl) (Want.yes rfl rfl rfl rfl) rfl (ltN rfl) (QP.not rfl rfl) ?_
              refine Dw.pure (i := 35) rfl (by kernel_rfl) (Want.yes rfl rfl rfl rfl) rfl (ltN rfl) (QP.move rfl rfl) ?_
              refine Dw.skip (i := 36) rfl (by kernel_rfl) (Want.no rfl rfl rfl rfl) rfl (ltN rfl) ?_
              refine Dw.skip (i := 37) rfl (by kernel_rfl) (Want.no rfl rfl rfl rfl) rfl (ltN rfl) ?_
              refine Dw.skip (i := 38) rfl (by kernel_rfl) (Want.no rfl rfl rfl rfl) rfl (ltN rfl) ?_
              refine Dw.pure (i := 39) rfl (by kernel_rfl) (Want.yes rfl rfl rfl rfl) rfl (ltN rfl) (QP.pick_f rfl rfl rfl) ?_
              refine Dw.pure (i := 40) rfl (by kernel_rfl) (Want.none rfl) rfl (ltN rfl) (QP.pick_f rfl rfl rfl) ?_
              refine Dw.pure (i := 41) rfl (by kernel_rfl) (Want.none rfl) rfl (ltN rfl) (QP.move rfl rfl) ?_
              refine Dw.pure (i := 42) rfl (by kernel_rfl) (Want.yes rfl rfl rfl rfl) rfl (ltN rfl) (QP.move rfl rfl) ?_
              refine Dw.pure (i := 43) rfl (by kernel_rfl) (Want.yes rfl rfl rfl rfl) rfl (ltN rfl) (QP.move rfl rfl) ?_
              refine Dw.pure (i := 44) rfl (by kernel_rfl) (Want.yes rfl rfl rfl rfl) rfl (ltN rfl) (QP.neq rfl rfl rfl) ?_
              refine J.decF (by simp [(hn1x.uniq hn2x).1]) ?_
              refine Dw.pure (i := 45) rfl (by kernel_rfl) (Want.none rfl) rfl (ltN rfl) (QP.pick_f rfl rfl rfl) ?_
              refine Dw.pure (i := 46) rfl (by kernel_rfl) (Want.none rfl) rfl (ltN rfl) (QP.move rfl rfl) ?_
              refine Dw.pure (i := 47) rfl (by kernel_rfl) (Want.yes rfl rfl rfl rfl) rfl (ltN rfl) (QP.move rfl rfl) ?_
              refine Dw.pure (i := 48) rfl (by kernel_rfl) (Want.yes rfl rfl rfl rfl) rfl (ltN rfl) (QP.move rfl rfl) ?_
              refine Dw.pure (i := 49) rfl (by kernel_rfl) (Want.yes rfl rfl rfl rfl) rfl (ltN rfl) (QP.neqB rfl rfl rfl Try.underlying4) ?_
              refine J.boolF (by simp [(hn1x.uniq hn2x).2]) ?_
              refine Dw.pure (i := 50) rfl (by kernel_rfl) (Want.none rfl) rfl (ltN rfl) (QP.pick_f rfl rfl rfl) ?_
              refine Dw.pure (i := 51) rfl (by kernel_rfl) (Want.none rfl) rfl (ltN rfl) (QP.move rfl rfl) ?_
              refine Dw.pure (i := 52) rfl (by kernel_rfl) (Want.yes rfl rfl rfl rfl) rfl (ltN rfl) (QP.move rfl rfl) ?_
              refine Dw.pure (i := 53) rfl (by kernel_rfl) (Want.yes rfl rfl rfl rfl) rfl (ltN rfl) (QP.fieldAddr rfl rfl f39_2) ?_
              refine Dw.read (i := 54) rfl (by kernel_rfl) (Want.yes rfl rfl rfl rfl) rfl (ltN rfl) (QR.load rfl rfl g28 (Law15Act.sub_p _)) ?_
              refine Dw.pure (i := 55) rfl (by kernel_rfl) (Want.yes rfl rfl rfl rfl) rfl (ltN rfl) (QP.fieldAddr rfl rfl f39_3) ?_
              refine Dw.read (i := 56) rfl (by kernel_rfl) (Want.yes rfl rfl rfl rfl) rfl (ltN rfl) (QR.load rfl rfl g30 (Law15Act.sub_id_ _)) ?_
              refine Dw.pure (i := 57) rfl (by kernel_rfl) (Want.yes rfl rfl rfl rfl) rfl (ltN rfl) (QP.fieldAddr rfl rfl f39_4) ?_
              refine Dw.read (i := 58) rfl (by kernel_rfl) (Want.yes rfl rfl rfl rfl) rfl (ltN rfl) (QR.load rfl rfl g33 (Law15Act.sub_d _)) ?_
              refine Dw.pure (i := 60) rfl (by kernel_rfl) (Want.yes rfl rfl rfl rfl) rfl (ltN rfl) (QP.move rfl rfl) ?_
              refine Dw.pure (i := 61) rfl (by kernel_rfl) (Want.yes rfl rfl rfl rfl) rfl (ltN rfl) (QP.fieldAddr rfl rfl f39_2) ?_
              refine Dw.read (i := 62) rfl (by kernel_rfl) (Want.yes rfl rfl rfl rfl) rfl (ltN rfl) (QR.load rfl rfl g28 (Law15Act.sub_p _)) ?_
              refine Dw.pure (i := 63) rfl (by kernel_rfl) (Want.yes rfl rfl rfl rfl) rfl (ltN rfl) (QP.fieldAddr rfl rfl f39_3) ?_
              refine Dw.read (i := 64) rfl (by kernel_rfl) (Want.yes rfl rfl rfl rfl) rfl (ltN rfl) (QR.load rfl rfl g30 (Law15Act.sub_id_ _)) ?_
              refine Dw.pure (i := 65) rfl (by kernel_rfl) (Want.yes rfl rfl rfl rfl) rfl (ltN rfl) (QP.fieldAddr rfl rfl f39_4) ?_
              refine Dw.read (i := 66) rfl (by kernel_rfl) (Want.yes rfl rfl rfl rfl) rfl (ltN rfl) (QR.load rfl rfl g33 (Law15Act.sub_d _)) ?_
              refine Dw.eff (i := 59) (by kernel_rfl) (by kernel_rfl) ?_
              refine One.mk (o := _) (l := [66, 64, 62]) rfl (by kernel_rfl) (Want.yes rfl rfl rfl rfl) rfl (ltN rfl) (EF.call rfl ce14 rfl (.cons (by repeat (first | exact Pick.head | apply Pick.tail)) Takes.nil) (fun F' hle hr => feasT F' x.p x.id_ x.d)) (by kernel_rfl) ?_
              rintro _ _ ⟨_, ⟨rfl, rfl⟩, rfl⟩
              refine ⟨?_, ?_⟩
              · rw [List.forall_mem_cons, List.forall_mem_cons, List.forall_mem_cons]
                refine ⟨?_, ?_, ?_, fun _ h => (by cases h)⟩
                · refine Look.app ?_
                  exact Look.mk rfl rfl rfl (QR.load rfl rfl g33 (Law15Act.sub_d _))
                · refine Look.app ?_
                  exact Look.mk rfl rfl rfl (QR.load rfl rfl g30 (Law15Act.sub_id_ _))
                · refine Look.app ?_
                  exact Look.mk rfl rfl rfl (QR.load rfl rfl g28 (Law15Act.sub_p _))
              refine ?_
              refine J.app ?_
              refine Dw.eff (i := 67) (by kernel_rfl) (by kernel_rfl) ?_
              refine One.mk (o := _) (l := []) rfl (by kernel_rfl) (Want.yes rfl rfl rfl rfl) rfl (ltN rfl) (EF.call rfl ce25 rfl (.cons (by repeat (first | exact Pick.head | apply Pick.tail)) (.cons (by repeat (first | exact Pick.head | apply Pick.tail)) Takes.nil)) (fun F' hle hr => rfeasible_spec F' hh2 (by omega) (fun y hy => (hgood2 y hy).2.2) x.p x.id_ x.d hxd)) (by kernel_rfl) ?_
              rintro _ _ ⟨_, ⟨rfl, rf, rfl, hrf⟩, rfl⟩
              refine ⟨fun _ h => (by cases h), ?_⟩
              refine J.app ?_
              refine Dw.pure (i := 68) rfl (by kernel_rfl) (Want.yes rfl rfl rfl rfl) rfl (ltN rfl) (QP.neqB rfl rfl rfl Try.underlying4) ?_
              refine J.boolF (by rw [feas_ord hord2 hrf]; simp) ?_
              refine Dw.pure (i := 69) rfl (by kernel_rfl) (Want.none rfl) rfl (ltN rfl) (QP.pick_f rfl rfl rfl) ?_
              refine Dw.nil (by kernel_rfl) ?_
              refine hk40 _ _ ?_
              refine Run.cond_f rfl ?_
              refine Run.skip ?_
              refine hk15 _ _ ?_
              refine Run.region ?_
              show Sq _ _ _ [0, 1, 2] _ _ _ _
              refine Sq.quiet (i := 0) rfl (Want.none rfl) rfl (ltN rfl) (QP.move rfl rfl).read ?_
              refine Sq.quiet (i := 1) rfl (Want.none rfl) rfl (ltN rfl) (QP.add64 rfl rfl rfl (by first | omega | (simp <;> omega)) (by first | omega | (simp <;> omega))).read ?_
              refine Sq.quiet (i := 2) rfl (Want.none rfl) rfl (ltN rfl) (QP.assign rfl rfl).read ?_
              refine Sq.nil ?_
              exact J.envJ (J.keep (.cons (by repeat (first | exact Pick.head | apply Pick.tail)) (.cons (by repeat (first | exact Pick.head | apply Pick.tail)) (.cons (by repeat (first | exact Pick.head | apply Pick.tail)) Takes.nil))) (hl12 (i + 1) (now2) (M2) (L2) (some ⟨b0y, o0y, none⟩) (c3) (⟨by omega, hnn, by omega, hord2, hgood2, hl2, hh2⟩) (by omega))) ⟨rfl, rfl, rfl, rfl, rfl, trivial⟩
          · skip
            refine Sq.quiet (i := 1) rfl (Want.none rfl) rfl (ltN rfl) (QP.assign rfl rfl).read ?_
            refine Sq.nil ?_
            refine hk31 _ _ ?_
            refine Run.cond_f rfl ?_
            refine Run.seq fun k41 hk41 => ?_
            refine Run.region ?_
            show Sq _ _ _ [0, 1] _ _ _ _
            refine Sq.quiet (i := 0) rfl (Want.none rfl) rfl (ltN rfl) (QP.eql rfl rfl rfl).read ?_
            refine J.caseD (fun c81 => ?_) (fun c81 => ?_)
            · skip
              refine Sq.quiet (i := 1) rfl (Want.none rfl) rfl (ltN rfl) (QP.assign rfl rfl).read ?_
              refine Sq.nil ?_
              refine hk41 _ _ ?_
              refine Run.cond_t rfl ?_
              refine Run.regionD (M := [0, 0, 0, 4, 0, 16, 0, 64, 240, 511, 0, 0, 0, 4096, 0, 16384, 65535, 131071, 262143, 524287]) (q := 457983) (r := 41128) (by kernel_rfl) ?_
              refine Dw.pure (i := 0) rfl (by kernel_rfl) (Want.none rfl) rfl (ltN rfl) (QP.move rfl rfl) ?_
              refine Dw.pure (i := 1) rfl (by kernel_rfl) (Want.none rfl) rfl (ltN rfl) (QP.move rfl rfl) ?_
              refine Dw.pure (i := 2) rfl (by kernel_rfl) (Want.none rfl) rfl (ltN rfl) (QP.fieldAddr rfl rfl f39_2) ?_
              refine Dw.read (i := 3) rfl (by kernel_rfl) (Want.none rfl) rfl (ltN rfl) (QR.load rfl rfl g28 (Law15Act.sub_p _)) ?_
              refine Dw.pure (i := 4) rfl (by kernel_rfl) (Want.none rfl) rfl (ltN rfl) (QP.fieldAddr rfl rfl f39_3) ?_
              refine Dw.read (i := 5) rfl (by kernel_rfl) (Want.none rfl) rfl (ltN rfl) (QR.load rfl rfl g30 (Law15Act.sub_id_ _)) ?_
              refine Dw.pure (i := 6) rfl (by kernel_rfl) (Want.none rfl) rfl (ltN rfl) (QP.fieldAddr rfl rfl f39_3) ?_
              refine Dw.read (i := 7) rfl (by kernel_rfl) (Want.none rfl) rfl (ltN rfl) (QR.load rfl rfl g30 (Law15Act.sub_id_ _)) ?_
              refine Dw.pure (i := 10) rfl (by kernel_rfl) (Want.none rfl) rfl (ltN rfl) (QP.move rfl rfl) ?_
              refine Dw.pure (i := 11) rfl (by kernel_rfl) (Want.none rfl) rfl (ltN rfl) (QP.move rfl rfl) ?_
              refine Dw.pure (i := 12) rfl (by kernel_rfl) (Want.none rfl) rfl (ltN rfl) (QP.fieldAddr rfl rfl f39_2) ?_
              refine Dw.read (i := 13) rfl (by kernel_rfl) (Want.none rfl) rfl (ltN rfl) (QR.load rfl rfl g28 (Law15Act.sub_p _)) ?_
              refine Dw.pure (i := 14) rfl (by kernel_rfl) (Want.none rfl) rfl (ltN rfl) (QP.fieldAddr rfl rfl f39_3) ?_
              refine Dw.read (i := 15) rfl (by kernel_rfl) (Want.none rfl) rfl (ltN rfl) (QR.load rfl rfl g30 (Law15Act.sub_id_ _)) ?_
              refine Dw.eff (i := 8) (by kernel_rfl) (by kernel_rfl) ?_
              refine One.mk (o := _) (l := [15, 13, 3]) rfl (by kernel_rfl) (Want.none rfl) rfl (ltN rfl) (EF.buildSliceN (enc := Bs.enc) (xs := [(x).id_, (x).id_]) rfl Try.underlying82 z30 zero30 (by simp [Value.cells, Bs.len]) (by decide) rfl rfl rfl Bs.len (by decide)) (by kernel_rfl) ?_
              rintro _ _ ⟨b90, rfl, rfl⟩
              refine ⟨?_, ?_⟩
              · rw [List.forall_mem_cons, List.forall_mem_cons, List.forall_mem_cons]
                refine ⟨?_, ?_, ?_, fun _ h => (by cases h)⟩
                · exact Look.mk rfl rfl rfl (QR.load rfl rfl g30 (Law15Act.sub_id_ _))
                · exact Look.mk rfl rfl rfl (QR.load rfl rfl g28 (Law15Act.sub_p _))
                · exact Look.mk rfl rfl rfl (QR.load rfl rfl g28 (Law15Act.sub_p _))
              refine ?_
              refine Dw.eff (i := 9) (by kernel_rfl) (by kernel_rfl) ?_
              refine One.mk (o := _) (l := [15, 13]) rfl (by kernel_rfl) (Want.none rfl) rfl (ltN rfl) (EF.call rfl ce21 rfl (.cons (by repeat (first | exact Pick.head | apply Pick.tail)) Takes.nil) (fun F' hle hr => touchT F' now2 x.p x.id_ (c := 2) (fun _ => ⟨b90, 0, rfl, [x.id_, x.id_].flatMap Bs.enc, _, (0, 0), hr _ _ (by repeat (first | exact List.Mem.head _ | apply List.Mem.tail)), by simpa [Bs.len] using SubL.all ([x.id_, x.id_].flatMap Bs.enc)⟩))) (by kernel_rfl) ?_
              rintro _ _ ⟨_, ⟨rfl, rfl⟩, rfl⟩
              refine ⟨?_, ?_⟩
              · rw [List.forall_mem_cons, List.forall_mem_cons]
                refine ⟨?_, ?_, fun _ h => (by cases h)⟩
                · refine Look.app ?_
                  exact Look.mk rfl rfl rfl (QR.load rfl rfl g30 (Law15Act.sub_id_ _))
                · refine Look.app ?_
                  exact Look.mk rfl rfl rfl (QR.load rfl rfl g28 (Law15Act.sub_p _))
              refine ?_
              refine J.app ?_
              refine Dw.eff (i := 16) (by kernel_rfl) (by kernel_rfl) ?_
              refine One.mk (o := _) (l := []) rfl (by kernel_rfl) (Want.none rfl) rfl (ltN rfl) (EF.call rfl ce22 rfl (.cons (by repeat (first | exact Pick.head | apply Pick.tail)) (.cons (by repeat (first | exact Pick.head | apply Pick.tail)) Takes.nil)) (fun F' hle hr => rtouch_spec F' hh hLn now2 x.p x.id_)) (by kernel_rfl) ?_
              rintro _ _ ⟨_, ⟨a3, c3, L2, hh2, n2, rfl, hr, rfl⟩, rfl⟩
              refine ⟨fun _ h => (by cases h), ?_⟩
              refine J.app ?_
              obtain ⟨htn, hord2⟩ := touch_ord hord hr
              obtain ⟨hgood2, hl2, hn2a, hn2b⟩ := touch_good hr hnn hgood
              replace hl2 : L2.length ≤ i + 1 := by omega
              obtain ⟨M2, hM2⟩ : ∃ M2, M2 = touchF M now2 ⟨x.p, x.id_⟩ := ⟨_, rfl⟩
              rw [← hM2] at hord2
              rw [← hM2]
              have hwn : IntKind.i64.wrap (2 * n2) = 2 * n2 := wrap_i64 (by omega) (by omega)
              refine Dw.pure (i := 17) rfl (by kernel_rfl) (Want.none rfl) rfl (ltN rfl) (QP.mul rfl rfl rfl) ?_
              refine Dw.pure (i := 18) rfl (by kernel_rfl) (Want.none rfl) rfl (ltN rfl) (QP.eql rfl rfl rfl) ?_
              refine J.decT (by rw [hwn, htn]) ?_
              refine Dw.eff (i := 19) (by kernel_rfl) (by kernel_rfl) ?_
              refine One.mk (o := _) (l := []) rfl (by kernel_rfl) (Want.none rfl) rfl (ltN rfl) ((QP.assign rfl rfl).eff) (by kernel_rfl) ?_
              rintro _ _ ⟨rfl, rfl⟩
              refine ⟨fun _ h => (by cases h), ?_⟩
              refine Dw.nil (by kernel_rfl) ?_
              refine hk19 _ _ ?_
              refine Run.seq fun k42 hk42 => ?_
              refine Run.region ?_
              show Sq _ _ _ [0, 1, 2, 3, 4, 5, 6, 7, 8, 9, 10, 11] _ _ _ _
              refine Sq.quiet (i := 0) rfl (Want.none rfl) rfl (ltN rfl) (QP.move rfl rfl).read ?_
              refine Sq.quiet (i := 1) rfl (Want.none rfl) rfl (ltN rfl) (QP.fieldAddr rfl rfl f39_2).read ?_
              refine Sq.quiet (i := 2) rfl (Want.none rfl) rfl (ltN rfl) (QR.load rfl rfl g28 (Law15Act.sub_p _)) ?_
              refine Sq.quiet (i := 3) rfl (Want.none rfl) rfl (ltN rfl) (QP.fieldAddr rfl rfl f39_3).read ?_
              refine Sq.quiet (i := 4) rfl (Want.none rfl) rfl (ltN rfl) (QR.load rfl rfl g30 (Law15Act.sub_id_ _)) ?_
              refine Sq.eff (i := 5) rfl (Want.none rfl) rfl (ltN rfl) (EF.call rfl ce13 rfl (.cons (by repeat (first | exact Pick.head | apply Pick.tail)) Takes.nil) (fun F' hle hr => getT2 F' x.p x.id_)) ?_
              rintro _ _ ⟨_, (⟨h0, rfl, rfl⟩ | ⟨s, h0, rfl, rfl⟩), rfl⟩
              · skip
                refine J.app ?_
                refine Sq.quiet (i := 6) rfl (Want.none rfl) rfl (ltN rfl) (QP.move rfl rfl).read ?_
                refine Sq.quiet (i := 7) rfl (Want.none rfl) rfl (ltN rfl) (QP.extract rfl rfl rfl).read ?_
                refine Sq.quiet (i := 8) rfl (Want.none rfl) rfl (ltN rfl) (QP.extract rfl rfl rfl).read ?_
                refine Sq.eff (i := 9) rfl (Want.none rfl) rfl (ltN rfl) (EF.allocA (l := Source.enc Source.zero) rfl zero45) ?_
                rintro _ _ ⟨b11, rfl, rfl⟩
                refine Sq.act (i := 10) rfl (Want.none rfl) rfl (EF.storeA rfl rfl rfl z45 (SetL.all (Source.enc_len _) (Source.enc_len _)) (Source.enc_cell _)) ?_
                rintro _ _ rfl
                refine Sq.quiet (i := 11) rfl (Want.none rfl) rfl (ltN rfl) (QP.assign rfl rfl).read ?_
                refine Sq.nil ?_
                refine hk42 _ _ ?_
                refine Run.seq fun k43 hk43 => ?_
                refine Run.region ?_
                show Sq _ _ _ [0, 1, 2, 3, 4, 5, 6] _ _ _ _
                refine Sq.quiet (i := 0) rfl (Want.none rfl) rfl (ltN rfl) (QP.move rfl rfl).read ?_
                refine Sq.quiet (i := 1) rfl (Want.none rfl) rfl (ltN rfl) (QP.fieldAddr rfl rfl f39_2).read ?_
                refine Sq.quiet (i := 2) rfl (Want.none rfl) rfl (ltN rfl) (QR.load rfl rfl g28 (Law15Act.sub_p _)) ?_
                refine Sq.quiet (i := 3) rfl (Want.none rfl) rfl (ltN rfl) (QP.fieldAddr rfl rfl f39_3).read ?_
                refine Sq.quiet (i := 4) rfl (Want.none rfl) rfl (ltN rfl) (QR.load rfl rfl g30 (Law15Act.sub_id_ _)) ?_
                refine Sq.eff (i := 5) rfl (Want.none rfl) rfl (ltN rfl) (EF.call rfl ce23 rfl (.cons (by repeat (first | exact Pick.head | apply Pick.tail)) (.cons (by repeat (first | exact Pick.head | apply Pick.tail)) Takes.nil)) (fun F' hle hr => rfind_spec F' hh2 (by omega) x.p x.id_)) ?_
                rintro _ _ ⟨_, ⟨rfl, n115, rfl, hfind⟩, rfl⟩
                refine J.app ?_
                obtain rfl : n115 = -1 := find_none hord2 h0 hfind
                refine Sq.quiet (i := 6) rfl (Want.none rfl) rfl (ltN rfl) (QP.assign rfl rfl).read ?_
                refine Sq.nil ?_
                refine hk43 _ _ ?_
                refine Run.seq fun k44 hk44 => ?_
                refine Run.region ?_
                show Sq _ _ _ [0, 1, 2, 3, 4, 5, 6] _ _ _ _
                refine Sq.quiet (i := 0) rfl (Want.none rfl) rfl (ltN rfl) (QP.move rfl rfl).read ?_
                refine Sq.eff (i := 1) rfl (Want.none rfl) rfl (ltN rfl) (EF.call rfl ce16 rfl (.cons (by repeat (first | exact Pick.head | apply Pick.tail)) Takes.nil) (fun F' hle hr => nextT2 F' hord2 (by rw [← hord2.length]; omega) hn3 hgood2)) ?_
                rintro _ _ ⟨_, ⟨n1, k1_, rfl, hn1x, rfl⟩, rfl⟩
                refine J.app ?_
                refine Sq.quiet (i := 2) rfl (Want.none rfl) rfl (ltN rfl) (QP.move rfl rfl).read ?_
                refine Sq.quiet (i := 3) rfl (Want.none rfl) rfl (ltN rfl) (QP.extract rfl rfl rfl).read ?_
                refine Sq.quiet (i := 4) rfl (Want.none rfl) rfl (ltN rfl) (QP.extract rfl rfl rfl).read ?_
                refine Sq.quiet (i := 5) rfl (Want.none rfl) rfl (ltN rfl) (QP.assign rfl rfl).read ?_
                refine Sq.quiet (i := 6) rfl (Want.none rfl) rfl (ltN rfl) (QP.assign rfl rfl).read ?_
                refine Sq.nil ?_
                refine hk44 _ _ ?_
                refine Run.seq fun k45 hk45 => ?_
                refine Run.region ?_
                show Sq _ _ _ [0, 1, 2, 3, 4, 5, 6] _ _ _ _
                refine Sq.quiet (i := 0) rfl (Want.none rfl) rfl (ltN rfl) (QP.move rfl rfl).read ?_
                refine Sq.eff (i := 1) rfl (Want.none rfl) rfl (ltN rfl) (EF.call rfl ce24 rfl (.cons (by repeat (first | exact Pick.head | apply Pick.tail)) (.cons (by repeat (first | exact Pick.head | apply Pick.tail)) Takes.nil)) (fun F' hle hr => rnext_spec F' hh2 (by omega) (fun y hy => ⟨(hgood2 y hy).1, Int.le_trans (hgood2 y hy).2.1 hn2⟩))) ?_
                rintro _ _ ⟨_, ⟨rfl, m2, k2_, rfl, hn2x⟩, rfl⟩
                refine J.app ?_
                refine Sq.quiet (i := 2) rfl (Want.none rfl) rfl (ltN rfl) (QP.move rfl rfl).read ?_
                refine Sq.quiet (i := 3) rfl (Want.none rfl) rfl (ltN rfl) (QP.extract rfl rfl rfl).read ?_
                refine Sq.quiet (i := 4) rfl (Want.none rfl) rfl (ltN rfl) (QP.extract rfl rfl rfl).read ?_
                refine Sq.quiet (i := 5) rfl (Want.none rfl) rfl (ltN rfl) (QP.assign rfl rfl).read ?_
                refine Sq.quiet (i := 6) rfl (Want.none rfl) rfl (ltN rfl) (QP.assign rfl rfl).read ?_
                refine Sq.nil ?_
                refine hk45 _ _ ?_
                refine Run.seq fun k46 hk46 => ?_
                refine Run.regionD (M := [0, 1, 3, 7, 15, 7, 39, 103, 231, 511, 1023, 2047, 4095, 8191, 8191, 24575, 65535, 131071, 262143, 524287, 1048575, 2097151, 2097151, 6291455, 14680063, 31457279, 2097151, 132120575, 266338303, 536870911, 1073741823, 2147483647, 4294967295, 8589934591, 17179869183, 34359738367, 68719476735, 68719476735, 274877906943, 549755813887, 1099511627775, 2199023255551, 4398046511103, 4398046511103, 17592186044415, 35184372088831, 70368744177663, 140737488355327, 140737488355327, 562949953421311, 1125899906842623, 2251799813685247, 4503599627370495, 4503599627370495, 13510798882111487, 4503599627370495, 40532396646334463, 4503599627370495, 148618787703226367, 576460752303423487, 4503599627370495, 4503599627370495, 2310346608841064447, 4503599627370495, 9227875636482146303, 4503599627370495, 36897991747046473727, 147573952589676412927, 295147905179352825855, 590295810358705651711]) (q := 1032441207375431466479) (r := 97223708824697831680) (by kernel_rfl) ?_
                refine Dw.pure (i := 0) rfl (by kernel_rfl) (Want.none rfl) rfl (ltN rfl) (QP.move rfl rfl) ?_
                refine Dw.pure (i := 1) rfl (by kernel_rfl) (Want.none rfl) rfl (ltN rfl) (QP.not rfl rfl) ?_
                refine Dw.pure (i := 2) rfl (by kernel_rfl) (Want.none rfl) rfl (ltN rfl) (QP.move rfl rfl) ?_
                refine Dw.pure (i := 3) rfl (by kernel_rfl) (Want.yes rfl rfl rfl rfl) rfl (ltN rfl) (QP.move rfl rfl) ?_
                refine Dw.pure (i := 5) rfl (by kernel_rfl) (Want.yes rfl rfl rfl rfl) rfl (ltN rfl) (QP.move rfl rfl) ?_
                refine Dw.pure (i := 6) rfl (by kernel_rfl) (Want.yes rfl rfl rfl rfl) rfl (ltN rfl) (QP.nilCheck rfl rfl) ?_
                refine Dw.pure (i := 7) rfl (by kernel_rfl) (Want.yes rfl rfl rfl rfl) rfl (ltN rfl) (QP.fieldAddr rfl rfl f56_1) ?_
                refine Dw.read (i := 8) rfl (by kernel_rfl) (Want.yes rfl rfl rfl rfl) rfl (ltN rfl) (QR.load1 (v := .slice _ L2.length _) rfl rfl g42 (Ref15Table.sub_l _)) ?_
                refine Dw.eff (i := 4) (by kernel_rfl) (by kernel_rfl) ?_
                refine One.mk (o := _) (l := [8]) rfl (by kernel_rfl) (Want.yes rfl rfl rfl rfl) rfl (ltN rfl) (EF.call rfl ce15 rfl (.cons (by repeat (first | exact Pick.head | apply Pick.tail)) Takes.nil) (fun F' hle hr => listT2 F' hord2 (by rw [← hord2.length]; omega))) (by kernel_rfl) ?_
                rintro v130 _ ⟨_, rfl, rfl⟩
                refine ⟨?_, ?_⟩
                · rw [List.forall_mem_cons]
                  refine ⟨?_, fun _ h => (by cases h)⟩
                  · refine Look.app ?_
                    exact Look.mk rfl rfl rfl (QR.load1 (v := .slice _ L2.length _) rfl rfl g42 (Ref15Table.sub_l _))
                refine ?_
                refine J.app ?_
                refine Dw.slCase (v := v130) (xs := L2) (by repeat (first | exact List.Mem.head _ | apply List.Mem.tail)) (fun a130 c130 hv130 hh130 => ?_)
                subst hv130
                refine Dw.eff (i := 9) (by kernel_rfl) (by kernel_rfl) ?_
                refine One.mk (o := _) (l := []) rfl (by kernel_rfl) (Want.yes rfl rfl rfl rfl) rfl (ltN rfl) (EF.call rfl ce19 rfl (.cons (by repeat (first | exact Pick.head | apply Pick.tail)) (.cons (by repeat (first | exact Pick.head | apply Pick.tail)) Takes.nil)) (fun F' hle hr => same_spec F' hh130 hh2 (by omega) (by omega))) (by kernel_rfl) ?_
                rintro _ _ ⟨_, ⟨rfl, rfl⟩, rfl⟩
                refine ⟨fun _ h => (by cases h), ?_⟩
                refine J.app ?_
                refine J.boolT (by simp) ?_
                refine Dw.pure (i := 10) rfl (by kernel_rfl) (Want.yes rfl rfl rfl rfl) rfl (ltN rfl) (QP.not rfl rfl) ?_
                refine Dw.pure (i := 11) rfl (by kernel_rfl) (Want.none rfl) rfl (ltN rfl) (QP.pick_f rfl rfl rfl) ?_
                refine Dw.pure (i := 12) rfl (by kernel_rfl) (Want.none rfl) rfl (ltN rfl) (QP.move rfl rfl) ?_
                refine Dw.pure (i := 13) rfl (by kernel_rfl) (Want.yes rfl rfl rfl rfl) rfl (ltN rfl) (QP.move rfl rfl) ?_
                refine Dw.pure (i := 14) rfl (by kernel_rfl) (Want.yes rfl rfl rfl rfl) rfl (ltN rfl) (QP.move rfl rfl) ?_
                refine Dw.pure (i := 15) rfl (by kernel_rfl) (Want.yes rfl rfl rfl rfl) rfl (ltN rfl) (QP.geq rfl rfl rfl) ?_
                refine J.decF (by omega) ?_
                refine Dw.pure (i := 16) rfl (by kernel_rfl) (Want.yes rfl rfl rfl rfl) rfl (ltN rfl) (QP.neqB rfl rfl rfl Try.underlying4) ?_
                refine J.boolF (rfl) ?_
                refine Dw.pure (i := 17) rfl (by kernel_rfl) (Want.none rfl) rfl (ltN rfl) (QP.pick_f rfl rfl rfl) ?_
                refine Dw.pure (i := 18) rfl (by kernel_rfl) (Want.none rfl) rfl (ltN rfl) (QP.move rfl rfl) ?_
                refine Dw.pure (i := 19) rfl (by kernel_rfl) (Want.yes rfl rfl rfl rfl) rfl (ltN rfl) (QP.move rfl rfl) ?_
                refine Dw.pure (i := 20) rfl (by kernel_rfl) (Want.yes rfl rfl rfl rfl) rfl (ltN rfl) (QP.move rfl rfl) ?_
                refine Dw.skip (i := 21) rfl (by kernel_rfl) (Want.no rfl rfl rfl rfl) rfl (ltN rfl) ?_
                refine Dw.skip (i := 22) rfl (by kernel_rfl) (Want.no rfl rfl rfl rfl) rfl (ltN rfl) ?_
                refine Dw.skip (i := 23) rfl (by kernel_rfl) (Want.no rfl rfl rfl rfl) rfl (ltN rfl) ?_
                refine Dw.skip (i := 24) rfl (by kernel_rfl) (Want.no rfl rfl rfl rfl) rfl (ltN rfl) ?_
                refine Dw.skip (i := 25) rfl (by kernel_rfl) (Want.no rfl rfl rfl rfl) rfl (ltN rfl) ?_
                refine Dw.skip (i := 26) rfl (by kernel_rfl) (Want.no rfl rfl rfl rfl) rfl (ltN rfl) ?_
                refine Dw.skip (i := 27) rfl (by kernel_rfl) (Want.no rfl rfl rfl rfl) rfl (ltN rfl) ?_
                refine Dw.skip (i := 28) rfl (by kernel_rfl) (Want.no rfl rfl rfl rfl) rfl (ltN rfl) ?_
                refine Dw.skip (i := 29) rfl (by kernel_rfl) (Want.no rfl rfl rfl rfl) rfl (ltN rfl) ?_
                refine Dw.pure (i := 30) rfl (by kernel_rfl) (Want.yes rfl rfl rfl rfl) rfl (ltN rfl) (QP.pick_f rfl rfl rfl) ?_
                refine Dw.pure (i := 31) rfl (by kernel_rfl) (Want.none rfl) rfl (ltN rfl) (QP.pick_f rfl rfl rfl) ?_
                refine Dw.pure (i := 32) rfl (by kernel_rfl) (Want.none rfl) rfl (ltN rfl) (QP.move rfl rfl) ?_
                refine Dw.pure (i := 33) rfl (by kernel_rfl) (Want.yes rfl rfl rfl rfl) rfl (ltN rfl) (QP.move rfl rfl) ?_
                refine Dw.pure (i := 34) rfl (by kernel_rfl) (Want.yes rfl rfl rfl rfl) rfl (ltN rfl) (QP.not rfl rfl) ?_
                refine Dw.pure (i := 35) rfl (by kernel_rfl) (Want.yes rfl rfl rfl rfl) rfl (ltN rfl) (QP.move rfl rfl) ?_
                refine Dw.read (i := 36) rfl (by kernel_rfl) (Want.yes rfl rfl rfl rfl) rfl (ltN rfl) (QR.load rfl rfl g45 (Source.enc_sub _)) ?_
                refine Dw.pure (i := 37) rfl (by kernel_rfl) (Want.yes rfl rfl rfl rfl) rfl (ltN rfl) (QP.build (l := Source.enc Source.zero) rfl st45 rfl (by exact trivial) rfl) ?_
                refine Dw.pure (i := 38) rfl (by kernel_rfl) (Want.yes rfl rfl rfl rfl) rfl (ltN rfl) (QP.neq_agg eq45 rfl rfl rfl) ?_
                refine J.decF (by simp) ?_
                refine Dw.pure (i := 39) rfl (by kernel_rfl) (Want.yes rfl rfl rfl rfl) rfl (ltN rfl) (QP.pick_t rfl rfl rfl) ?_
                refine Dw.pure (i := 40) rfl (by kernel_rfl) (Want.none rfl) rfl (ltN rfl) (QP.pick_f rfl rfl rfl) ?_
                refine Dw.pure (i := 41) rfl (by kernel_rfl) (Want.none rfl) rfl (ltN rfl) (QP.move rfl rfl) ?_
                refine Dw.pure (i := 42) rfl (by kernel_rfl) (Want.yes rfl rfl rfl rfl) rfl (ltN rfl) (QP.move rfl rfl) ?_
                refine Dw.pure (i := 43) rfl (by kernel_rfl) (Want.yes rfl rfl rfl rfl) rfl (ltN rfl) (QP.move rfl rfl) ?_
                refine Dw.pure (i := 44) rfl (by kernel_rfl) (Want.yes rfl rfl rfl rfl) rfl (ltN rfl) (QP.neq rfl rfl rfl) ?_
                refine J.decF (by simp [(hn1x.uniq hn2x).1]) ?_
                refine Dw.pure (i := 45) rfl (by kernel_rfl) (Want.none rfl) rfl (ltN rfl) (QP.pick_f rfl rfl rfl) ?_
                refine Dw.pure (i := 46) rfl (by kernel_rfl) (Want.none rfl) rfl (ltN rfl) (QP.move rfl rfl) ?_
                refine Dw.pure (i := 47) rfl (by kernel_rfl) (Want.yes rfl rfl rfl rfl) rfl (ltN rfl) (QP.move rfl rfl) ?_
                refine Dw.pure (i := 48) rfl (by kernel_rfl) (Want.yes rfl rfl rfl rfl) rfl (ltN rfl) (QP.move rfl rfl) ?_
                refine Dw.pure (i := 49) rfl (by kernel_rfl) (Want.yes rfl rfl rfl rfl) rfl (ltN rfl) (QP.neqB rfl rfl rfl Try.underlying4) ?_
                refine J.boolF (by simp [(hn1x.uniq hn2x).2]) ?_
                refine Dw.pure (i := 50) rfl (by kernel_rfl) (Want.none rfl) rfl (ltN rfl) (QP.pick_f rfl rfl rfl) ?_
                refine Dw.pure (i := 51) rfl (by kernel_rfl) (Want.none rfl) rfl (ltN rfl) (QP.move rfl rfl) ?_
                refine Dw.pure (i := 52) rfl (by kernel_rfl) (Want.yes rfl rfl rfl rfl) rfl (ltN rfl) (QP.move rfl rfl) ?_
                refine Dw.pure (i := 53) rfl (by kernel_rfl) (Want.yes rfl rfl rfl rfl) rfl (ltN rfl) (QP.fieldAddr rfl rfl f39_2) ?_
                refine Dw.read (i := 54) rfl (by kernel_rfl) (Want.yes rfl rfl rfl rfl) rfl (ltN rfl) (QR.load rfl rfl g28 (Law15Act.sub_p _)) ?_
                refine Dw.pure (i := 55) rfl (by kernel_rfl) (Want.yes rfl rfl rfl rfl) rfl (ltN rfl) (QP.fieldAddr rfl rfl f39_3) ?_
                refine Dw.read (i := 56) rfl (by kernel_rfl) (Want.yes rfl rfl rfl rfl) rfl (ltN rfl) (QR.load rfl rfl g30 (Law15Act.sub_id_ _)) ?_
                refine Dw.pure (i := 57) rfl (by kernel_rfl) (Want.yes rfl rfl rfl rfl) rfl (ltN rfl) (QP.fieldAddr rfl rfl f39_4) ?_
                refine Dw.read (i := 58) rfl (by kernel_rfl) (Want.yes rfl rfl rfl rfl) rfl (ltN rfl) (QR.load rfl rfl g33 (Law15Act.sub_d _)) ?_
                refine Dw.pure (i := 60) rfl (by kernel_rfl) (Want.yes rfl rfl rfl rfl) rfl (ltN rfl) (QP.move rfl rfl) ?_
                refine Dw.pure (i := 61) rfl (by kernel_rfl) (Want.yes rfl rfl rfl rfl) rfl (ltN rfl) (QP.fieldAddr rfl rfl f39_2) ?_
                refine Dw.read (i := 62) rfl (by kernel_rfl) (Want.yes rfl rfl rfl rfl) rfl (ltN rfl) (QR.load rfl rfl g28 (Law15Act.sub_p _)) ?_
                refine Dw.pure (i := 63) rfl (by kernel_rfl) (Want.yes rfl rfl rfl rfl) rfl (ltN rfl) (QP.fieldAddr rfl rfl f39_3) ?_
                refine Dw.read (i := 64) rfl (by kernel_rfl) (Want.yes rfl rfl rfl rfl) rfl (ltN rfl) (QR.load rfl rfl g30 (Law15Act.sub_id_ _)) ?_
                refine Dw.pure (i := 65) rfl (by kernel_rfl) (Want.yes rfl rfl rfl rfl) rfl (ltN rfl) (QP.fieldAddr rfl rfl f39_4) ?_
                refine Dw.read (i := 66) rfl (by kernel_rfl) (Want.yes rfl rfl rfl rfl) rfl (ltN rfl) (QR.load rfl rfl g33 (Law15Act.sub_d _)) ?_
                refine Dw.eff (i := 59) (by kernel_rfl) (by kernel_rfl) ?_
                refine One.mk (o := _) (l := [66, 64, 62]) rfl (by kernel_rfl) (Want.yes rfl rfl rfl rfl) rfl (ltN rfl) (EF.call rfl ce14 rfl (.cons (by repeat (first | exact Pick.head | apply Pick.tail)) Takes.nil) (fun F' hle hr => feasT F' x.p x.id_ x.d)) (by kernel_rfl) ?_
                rintro _ _ ⟨_, ⟨rfl, rfl⟩, rfl⟩
                refine ⟨?_, ?_⟩
                · rw [List.forall_mem_cons, List.forall_mem_cons, List.forall_mem_cons]
                  refine ⟨?_, ?_, ?_, fun _ h => (by cases h)⟩
                  · refine Look.app ?_
                    exact Look.mk rfl rfl rfl (QR.load rfl rfl g33 (Law15Act.sub_d _))
                  · refine Look.app ?_
                    exact Look.mk rfl rfl rfl (QR.load rfl rfl g30 (Law15Act.sub_id_ _))
                  · refine Look.app ?_
                    exact Look.mk rfl rfl rfl (QR.load rfl rfl g28 (Law15Act.sub_p _))
                refine ?_
                refine J.app ?_
                refine Dw.eff (i := 67) (by kernel_rfl) (by kernel_rfl) ?_
                refine One.mk (o := _) (l := []) rfl (by kernel_rfl) (Want.yes rfl rfl rfl rfl) rfl (ltN rfl) (EF.call rfl ce25 rfl (.cons (by repeat (first | exact Pick.head | apply Pick.tail)) (.cons (by repeat (first | exact Pick.head | apply Pick.tail)) Takes.nil)) (fun F' hle hr => rfeasible_spec F' hh2 (by omega) (fun y hy => (hgood2 y hy).2.2) x.p x.id_ x.d hxd)) (by kernel_rfl) ?_
                rintro _ _ ⟨_, ⟨rfl, rf, rfl, hrf⟩, rfl⟩
                refine ⟨fun _ h => (by cases h), ?_⟩
                refine J.app ?_
                refine Dw.pure (i := 68) rfl (by kernel_rfl) (Want.yes rfl rfl rfl rfl) rfl (ltN rfl) (QP.neqB rfl rfl rfl Try.underlying4) ?_
                refine J.boolF (by rw [feas_ord hord2 hrf]; simp) ?_
                refine Dw.pure (i := 69) rfl (by kernel_rfl) (Want.none rfl) rfl (ltN rfl) (QP.pick_f rfl rfl rfl) ?_
                refine Dw.nil (by kernel_rfl) ?_
                refine hk46 _ _ ?_
                refine Run.cond_f rfl ?_
                refine Run.skip ?_
                refine hk15 _ _ ?_
                refine Run.region ?_
                show Sq _ _ _ [0, 1, 2] _ _ _ _
                refine Sq.quiet (i := 0) rfl (Want.none rfl) rfl (ltN rfl) (QP.move rfl rfl).read ?_
                refine Sq.quiet (i := 1) rfl (Want.none rfl) rfl (ltN rfl) (QP.add64 rfl rfl rfl (by first | omega | (simp <;> omega)) (by first | omega | (simp <;> omega))).read ?_
                refine Sq.quiet (i := 2) rfl (Want.none rfl) rfl (ltN rfl) (QP.assign rfl rfl).read ?_
                refine Sq.nil ?_
                exact J.envJ (J.keep (.cons (by repeat (first | exact Pick.head | apply Pick.tail)) (.cons (by repeat (first | exact Pick.head | apply Pick.tail)) (.cons (by repeat (first | exact Pick.head | apply Pick.tail)) Takes.nil))) (hl12 (i + 1) (now2) (M2) (L2) (a3) (c3) (⟨by omega, hnn, by omega, hord2, hgood2, hl2, hh2⟩) (by omega))) ⟨rfl, rfl, rfl, rfl, rfl, trivial⟩
              · skip
                refine J.app ?_
                refine Sq.quiet (i := 6) rfl (Want.none rfl) rfl (ltN rfl) (QP.move rfl rfl).read ?_
                refine Sq.quiet (i := 7) rfl (Want.none rfl) rfl (ltN rfl) (QP.extract rfl rfl rfl).read ?_
                refine Sq.quiet (i := 8) rfl (Want.none rfl) rfl (ltN rfl) (QP.extract rfl rfl rfl).read ?_
                refine Sq.eff (i := 9) rfl (Want.none rfl) rfl (ltN rfl) (EF.allocA (l := Source.enc Source.zero) rfl zero45) ?_
                rintro _ _ ⟨b11, rfl, rfl⟩
                refine Sq.act (i := 10) rfl (Want.none rfl) rfl (EF.storeA rfl rfl rfl z45 (SetL.all (Source.enc_len _) (Source.enc_len _)) (Source.enc_cell _)) ?_
                rintro _ _ rfl
                refine Sq.quiet (i := 11) rfl (Want.none rfl) rfl (ltN rfl) (QP.assign rfl rfl).read ?_
                refine Sq.nil ?_
                refine hk42 _ _ ?_
                refine Run.seq fun k47 hk47 => ?_
                refine Run.region ?_
                show Sq _ _ _ [0, 1, 2, 3, 4, 5, 6] _ _ _ _
                refine Sq.quiet (i := 0) rfl (Want.none rfl) rfl (ltN rfl) (QP.move rfl rfl).read ?_
                refine Sq.quiet (i := 1) rfl (Want.none rfl) rfl (ltN rfl) (QP.fieldAddr rfl rfl f39_2).read ?_
                refine Sq.quiet (i := 2) rfl (Want.none rfl) rfl (ltN rfl) (QR.load rfl rfl g28 (Law15Act.sub_p _)) ?_
                refine Sq.quiet (i := 3) rfl (Want.none rfl) rfl (ltN rfl) (QP.fieldAddr rfl rfl f39_3).read ?_
                refine Sq.quiet (i := 4) rfl (Want.none rfl) rfl (ltN rfl) (QR.load rfl rfl g30 (Law15Act.sub_id_ _)) ?_
                refine Sq.eff (i := 5) rfl (Want.none rfl) rfl (ltN rfl) (EF.call rfl ce23 rfl (.cons (by repeat (first | exact Pick.head | apply Pick.tail)) (.cons (by repeat (first | exact Pick.head | apply Pick.tail)) Takes.nil)) (fun F' hle hr => rfind_spec F' hh2 (by omega) x.p x.id_)) ?_
                rintro _ _ ⟨_, ⟨rfl, n115, rfl, hfind⟩, rfl⟩
                refine J.app ?_
                obtain ⟨ky, rfl, hky⟩ : ∃ ky : Nat, n115 = ky ∧ L2[ky]? = some s := find_some hord2 h0 hfind
                have hkl : ky < L2.length := (List.getElem?_eq_some_iff.1 hky).1
                refine Sq.quiet (i := 6) rfl (Want.none rfl) rfl (ltN rfl) (QP.assign rfl rfl).read ?_
                refine Sq.nil ?_
                refine hk47 _ _ ?_
                refine Run.seq fun k48 hk48 => ?_
                refine Run.region ?_
                show Sq _ _ _ [0, 1, 2, 3, 4, 5, 6] _ _ _ _
                refine Sq.quiet (i := 0) rfl (Want.none rfl) rfl (ltN rfl) (QP.move rfl rfl).read ?_
                refine Sq.eff (i := 1) rfl (Want.none rfl) rfl (ltN rfl) (EF.call rfl ce16 rfl (.cons (by repeat (first | exact Pick.head | apply Pick.tail)) Takes.nil) (fun F' hle hr => nextT2 F' hord2 (by rw [← hord2.length]; omega) hn3 hgood2)) ?_
                rintro _ _ ⟨_, ⟨n1, k1_, rfl, hn1x, rfl⟩, rfl⟩
                refine J.app ?_
                refine Sq.quiet (i := 2) rfl (Want.none rfl) rfl (ltN rfl) (QP.move rfl rfl).read ?_
                refine Sq.quiet (i := 3) rfl (Want.none rfl) rfl (ltN rfl) (QP.extract rfl rfl rfl).read ?_
                refine Sq.quiet (i := 4) rfl (Want.none rfl) rfl (ltN rfl) (QP.extract rfl rfl rfl).read ?_
                refine Sq.quiet (i := 5) rfl (Want.none rfl) rfl (ltN rfl) (QP.assign rfl rfl).read ?_
                refine Sq.quiet (i := 6) rfl (Want.none rfl) rfl (ltN rfl) (QP.assign rfl rfl).read ?_
                refine Sq.nil ?_
                refine hk48 _ _ ?_
                refine Run.seq fun k49 hk49 => ?_
                refine Run.region ?_
                show Sq _ _ _ [0, 1, 2, 3, 4, 5, 6] _ _ _ _
                refine Sq.quiet (i := 0) rfl (Want.none rfl) rfl (ltN rfl) (QP.move rfl rfl).read ?_
                refine Sq.eff (i := 1) rfl (Want.none rfl) rfl (ltN rfl) (EF.call rfl ce24 rfl (.cons (by repeat (first | exact Pick.head | apply Pick.tail)) (.cons (by repeat (first | exact Pick.head | apply Pick.tail)) Takes.nil)) (fun F' hle hr => rnext_spec F' hh2 (by omega) (fun y hy => ⟨(hgood2 y hy).1, Int.le_trans (hgood2 y hy).2.1 hn2⟩))) ?_
                rintro _ _ ⟨_, ⟨rfl, m2, k2_, rfl, hn2x⟩, rfl⟩
                refine J.app ?_
                refine Sq.quiet (i := 2) rfl (Want.none rfl) rfl (ltN rfl) (QP.move rfl rfl).read ?_
                refine Sq.quiet (i := 3) rfl (Want.none rfl) rfl (ltN rfl) (QP.extract rfl rfl rfl).read ?_
                refine Sq.quiet (i := 4) rfl (Want.none rfl) rfl (ltN rfl) (QP.extract rfl rfl rfl).read ?_
                refine Sq.quiet (i := 5) rfl (Want.none rfl) rfl (ltN rfl) (QP.assign rfl rfl).read ?_
                refine Sq.quiet (i := 6) rfl (Want.none rfl) rfl (ltN rfl) (QP.assign rfl rfl).read ?_
                refine Sq.nil ?_
                refine hk49 _ _ ?_
                refine Run.seq fun k50 hk50 => ?_
                refine Run.regionD (M := [0, 1, 3, 7, 15, 7, 39, 103, 231, 511, 1023, 2047, 4095, 8191, 8191, 24575, 65535, 131071, 262143, 524287, 1048575, 2097151, 2097151, 6291455, 14680063, 31457279, 2097151, 132120575, 266338303, 536870911, 1073741823, 2147483647, 4294967295, 8589934591, 17179869183, 34359738367, 68719476735, 68719476735, 274877906943, 549755813887, 1099511627775, 2199023255551, 4398046511103, 4398046511103, 17592186044415, 35184372088831, 70368744177663, 140737488355327, 140737488355327, 562949953421311, 1125899906842623, 2251799813685247, 4503599627370495, 4503599627370495, 13510798882111487, 4503599627370495, 40532396646334463, 4503599627370495, 148618787703226367, 576460752303423487, 4503599627370495, 4503599627370495, 2310346608841064447, 4503599627370495, 9227875636482146303, 4503599627370495, 36897991747046473727, 147573952589676412927, 295147905179352825855, 590295810358705651711]) (q := 1032441207375431466479) (r := 97223708824697831680) (by kernel_rfl) ?_
                refine Dw.pure (i := 0) rfl (by kernel_rfl) (Want.none rfl) rfl (ltN rfl) (QP.move rfl rfl) ?_
                refine Dw.pure (i := 1) rfl (by kernel_rfl) (Want.none rfl) rfl (ltN rfl) (QP.not rfl rfl) ?_
                refine Dw.pure (i := 2) rfl (by kernel_rfl) (Want.none rfl) rfl (ltN rfl) (QP.move rfl rfl) ?_
                refine Dw.pure (i := 3) rfl (by kernel_rfl) (Want.yes rfl rfl rfl rfl) rfl (ltN rfl) (QP.move rfl rfl) ?_
                refine Dw.pure (i := 5) rfl (by kernel_rfl) (Want.yes rfl rfl rfl rfl) rfl (ltN rfl) (QP.move rfl rfl) ?_
                refine Dw.pure (i := 6) rfl (by kernel_rfl) (Want.yes rfl rfl rfl rfl) rfl (ltN rfl) (QP.nilCheck rfl rfl) ?_
                refine Dw.pure (i := 7) rfl (by kernel_rfl) (Want.yes rfl rfl rfl rfl) rfl (ltN rfl) (QP.fieldAddr rfl rfl f56_1) ?_
                refine Dw.read (i := 8) rfl (by kernel_rfl) (Want.yes rfl rfl rfl rfl) rfl (ltN rfl) (QR.load1 (v := .slice _ L2.length _) rfl rfl g42 (Ref15Table.sub_l _)) ?_
                refine Dw.eff (i := 4) (by kernel_rfl) (by kernel_rfl) ?_
                refine One.mk (o := _) (l := [8]) rfl (by kernel_rfl) (Want.yes rfl rfl rfl rfl) rfl (ltN rfl) (EF.call rfl ce15 rfl (.cons (by repeat (first | exact Pick.head | apply Pick.tail)) Takes.nil) (fun F' hle hr => listT2 F' hord2 (by rw [← hord2.length]; omega))) (by kernel_rfl) ?_
                rintro v130 _ ⟨_, rfl, rfl⟩
                refine ⟨?_, ?_⟩
                · rw [List.forall_mem_cons]
                  refine ⟨?_, fun _ h => (by cases h)⟩
                  · refine Look.app ?_
                    exact Look.mk rfl rfl rfl (QR.load1 (v := .slice _ L2.length _) rfl rfl g42 (Ref15Table.sub_l _))
                refine ?_
                refine J.app ?_
                refine Dw.slCase (v := v130) (xs := L2) (by repeat (first | exact List.Mem.head _ | apply List.Mem.tail)) (fun a130 c130 hv130 hh130 => ?_)
                subst hv130
                refine Dw.eff (i := 9) (by kernel_rfl) (by kernel_rfl) ?_
                refine One.mk (o := _) (l := []) rfl (by kernel_rfl) (Want.yes rfl rfl rfl rfl) rfl (ltN rfl) (EF.call rfl ce19 rfl (.cons (by repeat (first | exact Pick.head | apply Pick.tail)) (.cons (by repeat (first | exact Pick.head | apply Pick.tail)) Takes.nil)) (fun F' hle hr => same_spec F' hh130 hh2 (by omega) (by omega))) (by kernel_rfl) ?_
                rintro _ _ ⟨_, ⟨rfl, rfl⟩, rfl⟩
                refine ⟨fun _ h => (by cases h), ?_⟩
                refine J.app ?_
                refine J.boolT (by simp) ?_
                refine Dw.pure (i := 10) rfl (by kernel_rfl) (Want.yes rfl rfl rfl rfl) rfl (ltN rfl) (QP.not rfl rfl) ?_
                refine Dw.pure (i := 11) rfl (by kernel_rfl) (Want.none rfl) rfl (ltN rfl) (QP.pick_f rfl rfl rfl) ?_
                refine Dw.pure (i := 12) rfl (by kernel_rfl) (Want.none rfl) rfl (ltN rfl) (QP.move rfl rfl) ?_
                refine Dw.pure (i := 13) rfl (by kernel_rfl) (Want.yes rfl rfl rfl rfl) rfl (ltN rfl) (QP.move rfl rfl) ?_
                refine Dw.pure (i := 14) rfl (by kernel_rfl) (Want.yes rfl rfl rfl rfl) rfl (ltN rfl) (QP.move rfl rfl) ?_
                refine Dw.pure (i := 15) rfl (by kernel_rfl) (Want.yes rfl rfl rfl rfl) rfl (ltN rfl) (QP.geq rfl rfl rfl) ?_
                refine J.decT (by omega) ?_
                refine Dw.pure (i := 16) rfl (by kernel_rfl) (Want.yes rfl rfl rfl rfl) rfl (ltN rfl) (QP.neqB rfl rfl rfl Try.underlying4) ?_
                refine J.boolF (rfl) ?_
                refine Dw.pure (i := 17) rfl (by kernel_rfl) (Want.none rfl) rfl (ltN rfl) (QP.pick_f rfl rfl rfl) ?_
                refine Dw.pure (i := 18) rfl (by kernel_rfl) (Want.none rfl) rfl (ltN rfl) (QP.move rfl rfl) ?_
                refine Dw.pure (i := 19) rfl (by kernel_rfl) (Want.yes rfl rfl rfl rfl) rfl (ltN rfl) (QP.move rfl rfl) ?_
                refine Dw.pure (i := 20) rfl (by kernel_rfl) (Want.yes rfl rfl rfl rfl) rfl (ltN rfl) (QP.move rfl rfl) ?_
                refine Dw.read (i := 21) rfl (by kernel_rfl) (Want.yes rfl rfl rfl rfl) rfl (ltN rfl) (QR.load rfl rfl g45 (Source.enc_sub _)) ?_
                refine Dw.pure (i := 22) rfl (by kernel_rfl) (Want.yes rfl rfl rfl rfl) rfl (ltN rfl) (QP.move rfl rfl) ?_
                refine Dw.pure (i := 23) rfl (by kernel_rfl) (Want.yes rfl rfl rfl rfl) rfl (ltN rfl) (QP.nilCheck rfl rfl) ?_
                refine Dw.pure (i := 24) rfl (by kernel_rfl) (Want.yes rfl rfl rfl rfl) rfl (ltN rfl) (QP.fieldAddr rfl rfl f56_1) ?_
                refine Dw.read (i := 25) rfl (by kernel_rfl) (Want.yes rfl rfl rfl rfl) rfl (ltN rfl) (QR.load1 (v := .slice _ L2.length _) rfl rfl g42 (Ref15Table.sub_l _)) ?_
                refine Dw.pure (i := 26) rfl (by kernel_rfl) (Want.yes rfl rfl rfl rfl) rfl (ltN rfl) (QP.move rfl rfl) ?_
                obtain ⟨b0y, o0y, rfl⟩ := hh2.get (by omega)
                refine Dw.pure (i := 27) rfl (by kernel_rfl) (Want.yes rfl rfl rfl rfl) rfl (ltN rfl) (QP.indexAddr rfl rfl rfl Try.underlying42 z45 (by first | omega | (simp <;> omega)) (by first | omega | (simp <;> omega))) ?_
                refine Dw.read (i := 28) rfl (by kernel_rfl) (Want.yes rfl rfl rfl rfl) rfl (ltN rfl) (QR.loadSl rfl rfl g45 Source.enc_len (SlAt.own Source.enc_len (by repeat (first | exact List.Mem.head _ | apply List.Mem.tail))) hky) ?_
                refine Dw.pure (i := 29) rfl (by kernel_rfl) (Want.yes rfl rfl rfl rfl) rfl (ltN rfl) (QP.neq_agg eq45 rfl rfl rfl) ?_
                refine J.decF (by simp) ?_
                refine Dw.pure (i := 30) rfl (by kernel_rfl) (Want.yes rfl rfl rfl rfl) rfl (ltN rfl) (QP.pick_t rfl rfl rfl) ?_
                refine Dw.pure (i := 31) rfl (by kernel_rfl) (Want.none rfl) rfl (ltN rfl) (QP.pick_f rfl rfl rfl) ?_
                refine Dw.pure (i := 32) rfl (by kernel_rfl) (Want.none rfl) rfl (ltN rfl) (QP.move rfl rfl) ?_
                refine Dw.pure (i := 33) rfl (by kernel_rfl) (Want.yes rfl rfl rfl rfl) rfl (ltN rfl) (QP.move rfl rfl) ?_
                refine Dw.pure (i := 34) rfl (by kernel_rfl) (Want.yes rfl rfl rfl rfl) rfl (ltN rfl) (QP.not rfl rfl) ?_
                refine Dw.pure (i := 35) rfl (by kernel_rfl) (Want.yes rfl rfl rfl rfl) rfl (ltN rfl) (QP.move rfl rfl) ?_
                refine Dw.skip (i := 36) rfl (by kernel_rfl) (Want.no rfl rfl rfl rfl) rfl (ltN rfl) ?_
                refine Dw.skip (i := 37) rfl (by kernel_rfl) (Want.no rfl rfl rfl rfl) rfl (ltN rfl) ?_
                refine Dw.skip (i := 38) rfl (by kernel_rfl) (Want.no rfl rfl rfl rfl) rfl (ltN rfl) ?_
                refine Dw.pure (i := 39) rfl (by kernel_rfl) (Want.yes rfl rfl rfl rfl) rfl (ltN rfl) (QP.pick_f rfl rfl rfl) ?_
                refine Dw.pure (i := 40) rfl (by kernel_rfl) (Want.none rfl) rfl (ltN rfl) (QP.pick_f rfl rfl rfl) ?_
                refine Dw.pure (i := 41) rfl (by kernel_rfl) (Want.none rfl) rfl (ltN rfl) (QP.move rfl rfl) ?_
                refine Dw.pure (i := 42) rfl (by kernel_rfl) (Want.yes rfl rfl rfl rfl) rfl (ltN rfl) (QP.move rfl rfl) ?_
                refine Dw.pure (i := 43) rfl (by kernel_rfl) (Want.yes rfl rfl rfl rfl) rfl (ltN rfl) (QP.move rfl rfl) ?_
                refine Dw.pure (i := 44) rfl (by kernel_rfl) (Want.yes rfl rfl rfl rfl) rfl (ltN rfl) (QP.neq rfl rfl rfl) ?_
                refine J.decF (by simp [(hn1x.uniq hn2x).1]) ?_
                refine Dw.pure (i := 45) rfl (by kernel_rfl) (Want.none rfl) rfl (ltN rfl) (QP.pick_f rfl rfl rfl) ?_
                refine Dw.pure (i := 46) rfl (by kernel_rfl) (Want.none rfl) rfl (ltN rfl) (QP.move rfl rfl) ?_
                refine Dw.pure (i := 47) rfl (by kernel_rfl) (Want.yes rfl rfl rfl rfl) rfl (ltN rfl) (QP.move rfl rfl) ?_
                refine Dw.pure (i := 48) rfl (by kernel_rfl) (Want.yes rfl rfl rfl rfl) rfl (ltN rfl) (QP.move rfl rfl) ?_
                refine Dw.pure (i := 49) rfl (by kernel_rfl) (Want.yes rfl rfl rfl rfl) rfl (ltN rfl) (QP.neqB rfl rfl rfl Try.underlying4) ?_
                refine J.boolF (by simp [(hn1x.uniq hn2x).2]) ?_
                refine Dw.pure (i := 50) rfl (by kernel_rfl) (Want.none rfl) rfl (ltN rfl) (QP.pick_f rfl rfl rfl) ?_
                refine Dw.pure (i := 51) rfl (by kernel_rfl) (Want.none rfl) rfl (ltN rfl) (QP.move rfl rfl) ?_
                refine Dw.pure (i := 52) rfl (by kernel_rfl) (Want.yes rfl rfl rfl rfl) rfl (ltN rfl) (QP.move rfl rfl) ?_
                refine Dw.pure (i := 53) rfl (by kernel_rfl) (Want.yes rfl rfl rfl rfl) rfl (ltN rfl) (QP.fieldAddr rfl rfl f39_2) ?_
                refine Dw.read (i := 54) rfl (by kernel_rfl) (Want.yes rfl rfl rfl rfl) rfl (ltN rfl) (QR.load rfl rfl g28 (Law15Act.sub_p _)) ?_
                refine Dw.pure (i := 55) rfl (by kernel_rfl) (Want.yes rfl rfl rfl rfl) rfl (ltN rfl) (QP.fieldAddr rfl rfl f39_3) ?_
                refine Dw.read (i := 56) rfl (by kernel_rfl) (Want.yes rfl rfl rfl rfl) rfl (ltN rfl) (QR.load rfl rfl g30 (Law15Act.sub_id_ _)) ?_
                refine Dw.pure (i := 57) rfl (by kernel_rfl) (Want.yes rfl rfl rfl rfl) rfl (ltN rfl) (QP.fieldAddr rfl rfl f39_4) ?_
                refine Dw.read (i := 58) rfl (by kernel_rfl) (Want.yes rfl rfl rfl rfl) rfl (ltN rfl) (QR.load rfl rfl g33 (Law15Act.sub_d _)) ?_
                refine Dw.pure (i := 60) rfl (by kernel_rfl) (Want.yes rfl rfl rfl rfl) rfl (ltN rfl) (QP.move rfl rfl) ?_
                refine Dw.pure (i := 61) rfl (by kernel_rfl) (Want.yes rfl rfl rfl rfl) rfl (ltN rfl) (QP.fieldAddr rfl rfl f39_2) ?_
                refine Dw.read (i := 62) rfl (by kernel_rfl) (Want.yes rfl rfl rfl rfl) rfl (ltN rfl) (QR.load rfl rfl g28 (Law15Act.sub_p _)) ?_
                refine Dw.pure (i := 63) rfl (by kernel_rfl) (Want.yes rfl rfl rfl rfl) rfl (ltN rfl) (QP.fieldAddr rfl rfl f39_3) ?_
                refine Dw.read (i := 64) rfl (by kernel_rfl) (Want.yes rfl rfl rfl rfl) rfl (ltN rfl) (QR.load rfl rfl g30 (Law15Act.sub_id_ _)) ?_
                refine Dw.pure (i := 65) rfl (by kernel_rfl) (Want.yes rfl rfl rfl rfl) rfl (ltN rfl) (QP.fieldAddr rfl rfl f39_4) ?_
                refine Dw.read (i := 66) rfl (by kernel_rfl) (Want.yes rfl rfl rfl rfl) rfl (ltN rfl) (QR.load rfl rfl g33 (Law15Act.sub_d _)) ?_
                refine Dw.eff (i := 59) (by kernel_rfl) (by kernel_rfl) ?_
                refine One.mk (o := _) (l := [66, 64, 62]) rfl (by kernel_rfl) (Want.yes rfl rfl rfl rfl) rfl (ltN rfl) (EF.call rfl ce14 rfl (.cons (by repeat (first | exact Pick.head | apply Pick.tail)) Takes.nil) (fun F' hle hr => feasT F' x.p x.id_ x.d)) (by kernel_rfl) ?_
                rintro _ _ ⟨_, ⟨rfl, rfl⟩, rfl⟩
                refine ⟨?_, ?_⟩
                · rw [List.forall_mem_cons, List.forall_mem_cons, List.forall_mem_cons]
                  refine ⟨?_, ?_, ?_, fun _ h => (by cases h)⟩
                  · refine Look.app ?_
                    exact Look.mk rfl rfl rfl (QR.load rfl rfl g33 (Law15Act.sub_d _))
                  · refine Look.app ?_
                    exact Look.mk rfl rfl rfl (QR.load rfl rfl g30 (Law15Act.sub_id_ _))
                  · refine Look.app ?_
                    exact Look.mk rfl rfl rfl (QR.load rfl rfl g28 (Law15Act.sub_p _))
                refine ?_
                refine J.app ?_
                refine Dw.eff (i := 67) (by kernel_rfl) (by kernel_rfl) ?_
                refine One.mk (o := _) (l := []) rfl (by kernel_rfl) (Want.yes rfl rfl rfl rfl) rfl (ltN rfl) (EF.call rfl ce25 rfl (.cons (by repeat (first | exact Pick.head | apply Pick.tail)) (.cons (by repeat (first | exact Pick.head | apply Pick.tail)) Takes.nil)) (fun F' hle hr => rfeasible_spec F' hh2 (by omega) (fun y hy => (hgood2 y hy).2.2) x.p x.id_ x.d hxd)) (by kernel_rfl) ?_
                rintro _ _ ⟨_, ⟨rfl, rf, rfl, hrf⟩, rfl⟩
                refine ⟨fun _ h => (by cases h), ?_⟩
                refine J.app ?_
                refine Dw.pure (i := 68) rfl (by kernel_rfl) (Want.yes rfl rfl rfl rfl) rfl (ltN rfl) (QP.neqB rfl rfl rfl Try.underlying4) ?_
                refine J.boolF (by rw [feas_ord hord2 hrf]; simp) ?_
                refine Dw.pure (i := 69) rfl (by kernel_rfl) (Want.none rfl) rfl (ltN rfl) (QP.pick_f rfl rfl rfl) ?_
                refine Dw.nil (by kernel_rfl) ?_
                refine hk50 _ _ ?_
                refine Run.cond_f rfl ?_
                refine Run.skip ?_
                refine hk15 _ _ ?_
                refine Run.region ?_
                show Sq _ _ _ [0, 1, 2] _ _ _ _
                refine Sq.quiet (i := 0) rfl (Want.none rfl) rfl (ltN rfl) (QP.move rfl rfl).read ?_
                refine Sq.quiet (i := 1) rfl (Want.none rfl) rfl (ltN rfl) (QP.add64 rfl rfl rfl (by first | omega | (simp <;> omega)) (by first | omega | (simp <;> omega))).read ?_
                refine Sq.quiet (i := 2) rfl (Want.none rfl) rfl (ltN rfl) (QP.assign rfl rfl).read ?_
                refine Sq.nil ?_
                exact J.envJ (J.keep (.cons (by repeat (first | exact Pick.head | apply Pick.tail)) (.cons (by repeat (first | exact Pick.head | apply Pick.tail)) (.cons (by repeat (first | exact Pick.head | apply Pick.tail)) Takes.nil))) (hl12 (i + 1) (now2) (M2) (L2) (some ⟨b0y, o0y, none⟩) (c3) (⟨by omega, hnn, by omega, hord2, hgood2, hl2, hh2⟩) (by omega))) ⟨rfl, rfl, rfl, rfl, rfl, trivial⟩
            · skip
              refine Sq.quiet (i := 1) rfl (Want.none rfl) rfl (ltN rfl) (QP.assign rfl rfl).read ?_
              refine Sq.nil ?_
              refine hk41 _ _ ?_
              refine Run.cond_f rfl ?_
              refine Run.skip ?_
              refine hk19 _ _ ?_
              refine Run.seq fun k51 hk51 => ?_
              refine Run.region ?_
              show Sq _ _ _ [0, 1, 2, 3, 4, 5, 6, 7, 8, 9, 10, 11] _ _ _ _
              obtain ⟨M2, hM2⟩ : ∃ M2, M2 = M := ⟨_, rfl⟩
              obtain ⟨L2, hL2⟩ : ∃ L2, L2 = L := ⟨_, rfl⟩
              obtain ⟨a3, ha3⟩ : ∃ a3, a3 = al := ⟨_, rfl⟩
              obtain ⟨c3, hc3⟩ : ∃ c3, c3 = cl := ⟨_, rfl⟩
              have hord2 : OrdS M2 L2 := by rw [hM2, hL2]; exact hord
              have hh2 : SlH a3 c3 L2 := by rw [ha3, hc3, hL2]; exact hh
              rw [← hM2, ← hL2, ← ha3, ← hc3]
              have hgood2 : ∀ y ∈ L2, GoodS now2 y := fun y hy => hgood y (by rw [← hL2]; exact hy)
              have hl2 : L2.length ≤ i + 1 := by rw [hL2]; omega
              refine Sq.quiet (i := 0) rfl (Want.none rfl) rfl (ltN rfl) (QP.move rfl rfl).read ?_
              refine Sq.quiet (i := 1) rfl (Want.none rfl) rfl (ltN rfl) (QP.fieldAddr rfl rfl f39_2).read ?_
              refine Sq.quiet (i := 2) rfl (Want.none rfl) rfl (ltN rfl) (QR.load rfl rfl g28 (Law15Act.sub_p _)) ?_
              refine Sq.quiet (i := 3) rfl (Want.none rfl) rfl (ltN rfl) (QP.fieldAddr rfl rfl f39_3).read ?_
              refine Sq.quiet (i := 4) rfl (Want.none rfl) rfl (ltN rfl) (QR.load rfl rfl g30 (Law15Act.sub_id_ _)) ?_
              refine Sq.eff (i := 5) rfl (Want.none rfl) rfl (ltN rfl) (EF.call rfl ce13 rfl (.cons (by repeat (first | exact Pick.head | apply Pick.tail)) Takes.nil) (fun F' hle hr => getT2 F' x.p x.id_)) ?_
              rintro _ _ ⟨_, (⟨h0, rfl, rfl⟩ | ⟨s, h0, rfl, rfl⟩), rfl⟩
              · skip
                refine J.app ?_
                refine Sq.quiet (i := 6) rfl (Want.none rfl) rfl (ltN rfl) (QP.move rfl rfl).read ?_
                refine Sq.quiet (i := 7) rfl (Want.none rfl) rfl (ltN rfl) (QP.extract rfl rfl rfl).read ?_
                refine Sq.quiet (i := 8) rfl (Want.none rfl) rfl (ltN rfl) (QP.extract rfl rfl rfl).read ?_
                refine Sq.eff (i := 9) rfl (Want.none rfl) rfl (ltN rfl) (EF.allocA (l := Source.enc Source.zero) rfl zero45) ?_
                rintro _ _ ⟨b11, rfl, rfl⟩
                refine Sq.act (i := 10) rfl (Want.none rfl) rfl (EF.storeA rfl rfl rfl z45 (SetL.all (Source.enc_len _) (Source.enc_len _)) (Source.enc_cell _)) ?_
                rintro _ _ rfl
                refine Sq.quiet (i := 11) rfl (Want.none rfl) rfl (ltN rfl) (QP.assign rfl rfl).read ?_
                refine Sq.nil ?_
                refine hk51 _ _ ?_
                refine Run.seq fun k52 hk52 => ?_
                refine Run.region ?_
                show Sq _ _ _ [0, 1, 2, 3, 4, 5, 6] _ _ _ _
                refine Sq.quiet (i := 0) rfl (Want.none rfl) rfl (ltN rfl) (QP.move rfl rfl).read ?_
                refine Sq.quiet (i := 1) rfl (Want.none rfl) rfl (ltN rfl) (QP.fieldAddr rfl rfl f39_2).read ?_
                refine Sq.quiet (i := 2) rfl (Want.none rfl) rfl (ltN rfl) (QR.load rfl rfl g28 (Law15Act.sub_p _)) ?_
                refine Sq.quiet (i := 3) rfl (Want.none rfl) rfl (ltN rfl) (QP.fieldAddr rfl rfl f39_3).read ?_
                refine Sq.quiet (i := 4) rfl (Want.none rfl) rfl (ltN rfl) (QR.load rfl rfl g30 (Law15Act.sub_id_ _)) ?_
                refine Sq.eff (i := 5) rfl (Want.none rfl) rfl (ltN rfl) (EF.call rfl ce23 rfl (.cons (by repeat (first | exact Pick.head | apply Pick.tail)) (.cons (by repeat (first | exact Pick.head | apply Pick.tail)) Takes.nil)) (fun F' hle hr => rfind_spec F' hh2 (by omega) x.p x.id_)) ?_
                rintro _ _ ⟨_, ⟨rfl, n115, rfl, hfind⟩, rfl⟩
                refine J.app ?_
                obtain rfl : n115 = -1 := find_none hord2 h0 hfind
                refine Sq.quiet (i := 6) rfl (Want.none rfl) rfl (ltN rfl) (QP.assign rfl rfl).read ?_
                refine Sq.nil ?_
                refine hk52 _ _ ?_
                refine Run.seq fun k53 hk53 => ?_
                refine Run.region ?_
                show Sq _ _ _ [0, 1, 2, 3, 4, 5, 6] _ _ _ _
                refine Sq.quiet (i := 0) rfl (Want.none rfl) rfl (ltN rfl) (QP.move rfl rfl).read ?_
                refine Sq.eff (i := 1) rfl (Want.none rfl) rfl (ltN rfl) (EF.call rfl ce16 rfl (.cons (by repeat (first | exact Pick.head | apply Pick.tail)) Takes.nil) (fun F' hle hr => nextT2 F' hord2 (by rw [← hord2.length]; omega) hn3 hgood2)) ?_
                rintro _ _ ⟨_, ⟨n1, k1_, rfl, hn1x, rfl⟩, rfl⟩
                refine J.app ?_
                refine Sq.quiet (i := 2) rfl (Want.none rfl) rfl (ltN rfl) (QP.move rfl rfl).read ?_
                refine Sq.quiet (i := 3) rfl (Want.none rfl) rfl (ltN rfl) (QP.extract rfl rfl rfl).read ?_
                refine Sq.quiet (i := 4) rfl (Want.none rfl) rfl (ltN rfl) (QP.extract rfl rfl rfl).read ?_
                refine Sq.quiet (i := 5) rfl (Want.none rfl) rfl (ltN rfl) (QP.assign rfl rfl).read ?_
                refine Sq.quiet (i := 6) rfl (Want.none rfl) rfl (ltN rfl) (QP.assign rfl rfl).read ?_
                refine Sq.nil ?_
                refine hk53 _ _ ?_
                refine Run.seq fun k54 hk54 => ?_
                refine Run.region ?_
                show Sq _ _ _ [0, 1, 2, 3, 4, 5, 6] _ _ _ _
                refine Sq.quiet (i := 0) rfl (Want.none rfl) rfl (ltN rfl) (QP.move rfl rfl).read ?_
                refine Sq.eff (i := 1) rfl (Want.none rfl) rfl (ltN rfl) (EF.call rfl ce24 rfl (.cons (by repeat (first | exact Pick.head | apply Pick.tail)) (.cons (by repeat (first | exact Pick.head | apply Pick.tail)) Takes.nil)) (fun F' hle hr => rnext_spec F' hh2 (by omega) (fun y hy => ⟨(hgood2 y hy).1, Int.le_trans (hgood2 y hy).2.1 hn2⟩))) ?_
                rintro _ _ ⟨_, ⟨rfl, m2, k2_, rfl, hn2x⟩, rfl⟩
                refine J.app ?_
                refine Sq.quiet (i := 2) rfl (Want.none rfl) rfl (ltN rfl) (QP.move rfl rfl).read ?_
                refine Sq.quiet (i := 3) rfl (Want.none rfl) rfl (ltN rfl) (QP.extract rfl rfl rfl).read ?_
                refine Sq.quiet (i := 4) rfl (Want.none rfl) rfl (ltN rfl) (QP.extract rfl rfl rfl).read ?_
                refine Sq.quiet (i := 5) rfl (Want.none rfl) rfl (ltN rfl) (QP.assign rfl rfl).read ?_
                refine Sq.quiet (i := 6) rfl (Want.none rfl) rfl (ltN rfl) (QP.assign rfl rfl).read ?_
                refine Sq.nil ?_
                refine hk54 _ _ ?_
                refine Run.seq fun k55 hk55 => ?_
                refine Run.regionD (M := [0, 1, 3, 7, 15, 7, 39, 103, 231, 511, 1023, 2047, 4095, 8191, 8191, 24575, 65535, 131071, 262143, 524287, 1048575, 2097151, 2097151, 6291455, 14680063, 31457279, 2097151, 132120575, 266338303, 536870911, 1073741823, 2147483647, 4294967295, 8589934591, 17179869183, 34359738367, 68719476735, 68719476735, 274877906943, 549755813887, 1099511627775, 2199023255551, 4398046511103, 4398046511103, 17592186044415, 35184372088831, 70368744177663, 140737488355327, 140737488355327, 562949953421311, 1125899906842623, 2251799813685247, 4503599627370495, 4503599627370495, 13510798882111487, 4503599627370495, 40532396646334463, 4503599627370495, 148618787703226367, 576460752303423487, 4503599627370495, 4503599627370495, 2310346608841064447, 4503599627370495, 9227875636482146303, 4503599627370495, 36897991747046473727, 147573952589676412927, 295147905179352825855, 590295810358705651711]) (q := 1032441207375431466479) (r := 97223708824697831680) (by kernel_rfl) ?_
                refine Dw.pure (i := 0) rfl (by kernel_rfl) (Want.none rfl) rfl (ltN rfl) (QP.move rfl rfl) ?_
                refine Dw.pure (i := 1) rfl (by kernel_rfl) (Want.none rfl) rfl (ltN rfl) (QP.not rfl rfl) ?_
                refine Dw.pure (i := 2) rfl (by kernel_rfl) (Want.none rfl) rfl (ltN rfl) (QP.move rfl rfl) ?_
                refine Dw.pure (i := 3) rfl (by kernel_rfl) (Want.yes rfl rfl rfl rfl) rfl (ltN rfl) (QP.move rfl rfl) ?_
                refine Dw.pure (i := 5) rfl (by kernel_rfl) (Want.yes rfl rfl rfl rfl) rfl (ltN rfl) (QP.move rfl rfl) ?_
                refine Dw.pure (i := 6) rfl (by kernel_rfl) (Want.yes rfl rfl rfl rfl) rfl (ltN rfl) (QP.nilCheck rfl rfl) ?_
                refine Dw.pure (i := 7) rfl (by kernel_rfl) (Want.yes rfl rfl rfl rfl) rfl (ltN rfl) (QP.fieldAddr rfl rfl f56_1) ?_
                refine Dw.read (i := 8) rfl (by kernel_rfl) (Want.yes rfl rfl rfl rfl) rfl (ltN rfl) (QR.load1 (v := .slice _ L2.length _) rfl rfl g42 (Ref15Table.sub_l _)) ?_
                refine Dw.eff (i := 4) (by kernel_rfl) (by kernel_rfl) ?_
                refine One.mk (o := _) (l := [8]) rfl (by kernel_rfl) (Want.yes rfl rfl rfl rfl) rfl (ltN rfl) (EF.call rfl ce15 rfl (.cons (by repeat (first | exact Pick.head | apply Pick.tail)) Takes.nil) (fun F' hle hr => listT2 F' hord2 (by rw [← hord2.length]; omega))) (by kernel_rfl) ?_
                rintro v130 _ ⟨_, rfl, rfl⟩
                refine ⟨?_, ?_⟩
                · rw [List.forall_mem_cons]
                  refine ⟨?_, fun _ h => (by cases h)⟩
                  · refine Look.app ?_
                    exact Look.mk rfl rfl rfl (QR.load1 (v := .slice _ L2.length _) rfl rfl g42 (Ref15Table.sub_l _))
                refine ?_
                refine J.app ?_
                refine Dw.slCase (v := v130) (xs := L2) (by repeat (first | exact List.Mem.head _ | apply List.Mem.tail)) (fun a130 c130 hv130 hh130 => ?_)
                subst hv130
                refine Dw.eff (i := 9) (by kernel_rfl) (by kernel_rfl) ?_
                refine One.mk (o := _) (l := []) rfl (by kernel_rfl) (Want.yes rfl rfl rfl rfl) rfl (ltN rfl) (EF.call rfl ce19 rfl (.cons (by repeat (first | exact Pick.head | apply Pick.tail)) (.cons (by repeat (first | exact Pick.head | apply Pick.tail)) Takes.nil)) (fun F' hle hr => same_spec F' hh130 hh2 (by omega) (by omega))) (by kernel_rfl) ?_
                rintro _ _ ⟨_, ⟨rfl, rfl⟩, rfl⟩
                refine ⟨fun _ h => (by cases h), ?_⟩
                refine J.app ?_
                refine J.boolT (by simp) ?_
                refine Dw.pure (i := 10) rfl (by kernel_rfl) (Want.yes rfl rfl rfl rfl) rfl (ltN rfl) (QP.not rfl rfl) ?_
                refine Dw.pure (i := 11) rfl (by kernel_rfl) (Want.none rfl) rfl (ltN rfl) (QP.pick_f rfl rfl rfl) ?_
                refine Dw.pure (i := 12) rfl (by kernel_rfl) (Want.none rfl) rfl (ltN rfl) (QP.move rfl rfl) ?_
                refine Dw.pure (i := 13) rfl (by kernel_rfl) (Want.yes rfl rfl rfl rfl) rfl (ltN rfl) (QP.move rfl rfl) ?_
                refine Dw.pure (i := 14) rfl (by kernel_rfl) (Want.yes rfl rfl rfl rfl) rfl (ltN rfl) (QP.move rfl rfl) ?_
                refine Dw.pure (i := 15) rfl (by kernel_rfl) (Want.yes rfl rfl rfl rfl) rfl (ltN rfl) (QP.geq rfl rfl rfl) ?_
                refine J.decF (by omega) ?_
                refine Dw.pure (i := 16) rfl (by kernel_rfl) (Want.yes rfl rfl rfl rfl) rfl (ltN rfl) (QP.neqB rfl rfl rfl Try.underlying4) ?_
                refine J.boolF (rfl) ?_
                refine Dw.pure (i := 17) rfl (by kernel_rfl) (Want.none rfl) rfl (ltN rfl) (QP.pick_f rfl rfl rfl) ?_
                refine Dw.pure (i := 18) rfl (by kernel_rfl) (Want.none rfl) rfl (ltN rfl) (QP.move rfl rfl) ?_
                refine Dw.pure (i := 19) rfl (by kernel_rfl) (Want.yes rfl rfl rfl rfl) rfl (ltN rfl) (QP.move rfl rfl) ?_
                refine Dw.pure (i := 20) rfl (by kernel_rfl) (Want.yes rfl rfl rfl rfl) rfl (ltN rfl) (QP.move rfl rfl) ?_
                refine Dw.skip (i := 21) rfl (by kernel_rfl) (Want.no rfl rfl rfl rfl) rfl (ltN rfl) ?_
                refine Dw.skip (i := 22) rfl (by kernel_rfl) (Want.no rfl rfl rfl rfl) rfl (ltN rfl) ?_
                refine Dw.skip (i := 23) rfl (by kernel_rfl) (Want.no rfl rfl rfl rfl) rfl (ltN rfl) ?_
                refine Dw.skip (i := 24) rfl (by kernel_rfl) (Want.no rfl rfl rfl rfl) rfl (ltN rfl) ?_
                refine Dw.skip (i := 25) rfl (by kernel_rfl) (Want.no rfl rfl rfl rfl) rfl (ltN rfl) ?_
                refine Dw.skip (i := 26) rfl (by kernel_rfl) (Want.no rfl rfl rfl rfl) rfl (ltN rfl) ?_
                refine Dw.skip (i := 27) rfl (by kernel_rfl) (Want.no rfl rfl rfl rfl) rfl (ltN rfl) ?_
                refine Dw.skip (i := 28) rfl (by kernel_rfl) (Want.no rfl rfl rfl rfl) rfl (ltN rfl) ?_
                refine Dw.skip (i := 29) rfl (by kernel_rfl) (Want.no rfl rfl rfl rfl) rfl (ltN rfl) ?_
                refine Dw.pure (i := 30) rfl (by kernel_rfl) (Want.yes rfl rfl rfl rfl) rfl (ltN rfl) (QP.pick_f rfl rfl rfl) ?_
                refine Dw.pure (i := 31) rfl (by kernel_rfl) (Want.none rfl) rfl (ltN rfl) (QP.pick_f rfl rfl rfl) ?_
                refine Dw.pure (i := 32) rfl (by kernel_rfl) (Want.none rfl) rfl (ltN rfl) (QP.move rfl rfl) ?_
                refine Dw.pure (i := 33) rfl (by kernel_rfl) (Want.yes rfl rfl rfl rfl) rfl (ltN rfl) (QP.move rfl rfl) ?_
                refine Dw.pure (i := 34) rfl (by kernel_rfl) (Want.yes rfl rfl rfl rfl) rfl (ltN rfl) (QP.not rfl rfl) ?_
                refine Dw.pure (i := 35) rfl (by kernel_rfl) (Want.yes rfl rfl rfl rfl) rfl (ltN rfl) (QP.move rfl rfl) ?_
                refine Dw.read (i := 36) rfl (by kernel_rfl) (Want.yes rfl rfl rfl rfl) rfl (ltN rfl) (QR.load rfl rfl g45 (Source.enc_sub _)) ?_
                refine Dw.pure (i := 37) rfl (by kernel_rfl) (Want.yes rfl rfl rfl rfl) rfl (ltN rfl) (QP.build (l := Source.enc Source.zero) rfl st45 rfl (by exact trivial) rfl) ?_
                refine Dw.pure (i := 38) rfl (by kernel_rfl) (Want.yes rfl rfl rfl rfl) rfl (ltN rfl) (QP.neq_agg eq45 rfl rfl rfl) ?_
                refine J.decF (by simp) ?_
                refine Dw.pure (i := 39) rfl (by kernel_rfl) (Want.yes rfl rfl rfl rfl) rfl (ltN rfl) (QP.pick_t rfl rfl rfl) ?_
                refine Dw.pure (i := 40) rfl (by kernel_rfl) (Want.none rfl) rfl (ltN rfl) (QP.pick_f rfl rfl rfl) ?_
                refine Dw.pure (i := 41) rfl (by kernel_rfl) (Want.none rfl) rfl (ltN rfl) (QP.move rfl rfl) ?_
                refine Dw.pure (i := 42) rfl (by kernel_rfl) (Want.yes rfl rfl rfl rfl) rfl (ltN rfl) (QP.move rfl rfl) ?_
                refine Dw.pure (i := 43) rfl (by kernel_rfl) (Want.yes rfl rfl rfl rfl) rfl (ltN rfl) (QP.move rfl rfl) ?_
                refine Dw.pure (i := 44) rfl (by kernel_rfl) (Want.yes rfl rfl rfl rfl) rfl (ltN rfl) (QP.neq rfl rfl rfl) ?_
                refine J.decF (by simp [(hn1x.uniq hn2x).1]) ?_
                refine Dw.pure (i := 45) rfl (by kernel_rfl) (Want.none rfl) rfl (ltN rfl) (QP.pick_f rfl rfl rfl) ?_
                refine Dw.pure (i := 46) rfl (by kernel_rfl) (Want.none rfl) rfl (ltN rfl) (QP.move rfl rfl) ?_
                refine Dw.pure (i := 47) rfl (by kernel_rfl) (Want.yes rfl rfl rfl rfl) rfl (ltN rfl) (QP.move rfl rfl) ?_
                refine Dw.pure (i := 48) rfl (by kernel_rfl) (Want.yes rfl rfl rfl rfl) rfl (ltN rfl) (QP.move rfl rfl) ?_
                refine Dw.pure (i := 49) rfl (by kernel_rfl) (Want.yes rfl rfl rfl rfl) rfl (ltN rfl) (QP.neqB rfl rfl rfl Try.underlying4) ?_
                refine J.boolF (by simp [(hn1x.uniq hn2x).2]) ?_
                refine Dw.pure (i := 50) rfl (by kernel_rfl) (Want.none rfl) rfl (ltN rfl) (QP.pick_f rfl rfl rfl) ?_
                refine Dw.pure (i := 51) rfl (by kernel_rfl) (Want.none rfl) rfl (ltN rfl) (QP.move rfl rfl) ?_
                refine Dw.pure (i := 52) rfl (by kernel_rfl) (Want.yes rfl rfl rfl rfl) rfl (ltN rfl) (QP.move rfl rfl) ?_
                refine Dw.pure (i := 53) rfl (by kernel_rfl) (Want.yes rfl rfl rfl rfl) rfl (ltN rfl) (QP.fieldAddr rfl rfl f39_2) ?_
                refine Dw.read (i := 54) rfl (by kernel_rfl) (Want.yes rfl rfl rfl rfl) rfl (ltN rfl) (QR.load rfl rfl g28 (Law15Act.sub_p _)) ?_
                refine Dw.pure (i := 55) rfl (by kernel_rfl) (Want.yes rfl rfl rfl rfl) rfl (ltN rfl) (QP.fieldAddr rfl rfl f39_3) ?_
                refine Dw.read (i := 56) rfl (by kernel_rfl) (Want.yes rfl rfl rfl rfl) rfl (ltN rfl) (QR.load rfl rfl g30 (Law15Act.sub_id_ _)) ?_
                refine Dw.pure (i := 57) rfl (by kernel_rfl) (Want.yes rfl rfl rfl rfl) rfl (ltN rfl) (QP.fieldAddr rfl rfl f39_4) ?_
                refine Dw.read (i := 58) rfl (by kernel_rfl) (Want.yes rfl rfl rfl rfl) rfl (ltN rfl) (QR.load rfl rfl g33 (Law15Act.sub_d _)) ?_
                refine Dw.pure (i := 60) rfl (by kernel_rfl) (Want.yes rfl rfl rfl rfl) rfl (ltN rfl) (QP.move rfl rfl) ?_
                refine Dw.pure (i := 61) rfl (by kernel_rfl) (Want.yes rfl rfl rfl rfl) rfl (ltN rfl) (QP.fieldAddr rfl rfl f39_2) ?_
                refine Dw.read (i := 62) rfl (by kernel_rfl) (Want.yes rfl rfl rfl rfl) rfl (ltN rfl) (QR.load rfl rfl g28 (Law15Act.sub_p _)) ?_
                refine Dw.pure (i := 63) rfl (by kernel_rfl) (Want.yes rfl rfl rfl rfl) rfl (ltN rfl) (QP.fieldAddr rfl rfl f39_3) ?_
                refine Dw.read (i := 64) rfl (by kernel_rfl) (Want.yes rfl rfl rfl rfl) rfl (ltN rfl) (QR.load rfl rfl g30 (Law15Act.sub_id_ _)) ?_
                refine Dw.pure (i := 65) rfl (by kernel_rfl) (Want.yes rfl rfl rfl rfl) rfl (ltN rfl) (QP.fieldAddr rfl rfl f39_4) ?_
                refine Dw.read (i := 66) rfl (by kernel_rfl) (Want.yes rfl rfl rfl rfl) rfl (ltN rfl) (QR.load rfl rfl g33 (Law15Act.sub_d _)) ?_
                refine Dw.eff (i := 59) (by kernel_rfl) (by kernel_rfl) ?_
                refine One.mk (o := _) (l := [66, 64, 62]) rfl (by kernel_rfl) (Want.yes rfl rfl rfl rfl) rfl (ltN rfl) (EF.call rfl ce14 rfl (.cons (by repeat (first | exact Pick.head | apply Pick.tail)) Takes.nil) (fun F' hle hr => feasT F' x.p x.id_ x.d)) (by kernel_rfl) ?_
                rintro _ _ ⟨_, ⟨rfl, rfl⟩, rfl⟩
                refine ⟨?_, ?_⟩
                · rw [List.forall_mem_cons, List.forall_mem_cons, List.forall_mem_cons]
                  refine ⟨?_, ?_, ?_, fun _ h => (by cases h)⟩
                  · refine Look.app ?_
                    exact Look.mk rfl rfl rfl (QR.load rfl rfl g33 (Law15Act.sub_d _))
                  · refine Look.app ?_
                    exact Look.mk rfl rfl rfl (QR.load rfl rfl g30 (Law15Act.sub_id_ _))
                  · refine Look.app ?_
                    exact Look.mk rfl rfl rfl (QR.load rfl rfl g28 (Law15Act.sub_p _))
                refine ?_
                refine J.app ?_
                refine Dw.eff (i := 67) (by kernel_rfl) (by kernel_rfl) ?_
                refine One.mk (o := _) (l := []) rfl (by kernel_rfl) (Want.yes rfl rfl rfl rfl) rfl (ltN rfl) (EF.call rfl ce25 rfl (.cons (by repeat (first | exact Pick.head | apply Pick.tail)) (.cons (by repeat (first | exact Pick.head | apply Pick.tail)) Takes.nil)) (fun F' hle hr => rfeasible_spec F' hh2 (by omega) (fun y hy => (hgood2 y hy).2.2) x.p x.id_ x.d hxd)) (by kernel_rfl) ?_
                rintro _ _ ⟨_, ⟨rfl, rf, rfl, hrf⟩, rfl⟩
                refine ⟨fun _ h => (by cases h), ?_⟩
                refine J.app ?_
                refine Dw.pure (i := 68) rfl (by kernel_rfl) (Want.yes rfl rfl rfl rfl) rfl (ltN rfl) (QP.neqB rfl rfl rfl Try.underlying4) ?_
                refine J.boolF (by rw [feas_ord hord2 hrf]; simp) ?_
                refine Dw.pure (i := 69) rfl (by kernel_rfl) (Want.none rfl) rfl (ltN rfl) (QP.pick_f rfl rfl rfl) ?_
                refine Dw.nil (by kernel_rfl) ?_
                refine hk55 _ _ ?_
                refine Run.cond_f rfl ?_
                refine Run.skip ?_
                refine hk15 _ _ ?_
                refine Run.region ?_
                show Sq _ _ _ [0, 1, 2] _ _ _ _
                refine Sq.quiet (i := 0) rfl (Want.none rfl) rfl (ltN rfl) (QP.move rfl rfl).read ?_
                refine Sq.quiet (i := 1) rfl (Want.none rfl) rfl (ltN rfl) (QP.add64 rfl rfl rfl (by first | omega | (simp <;> omega)) (by first | omega | (simp <;> omega))).read ?_
                refine Sq.quiet (i := 2) rfl (Want.none rfl) rfl (ltN rfl) (QP.assign rfl rfl).read ?_
                refine Sq.nil ?_
                exact J.envJ (J.keep (.cons (by repeat (first | exact Pick.head | apply Pick.tail)) (.cons (by repeat (first | exact Pick.head | apply Pick.tail)) (.cons (by repeat (first | exact Pick.head | apply Pick.tail)) Takes.nil))) (hl12 (i + 1) (now2) (M2) (L2) (a3) (c3) (⟨by omega, hnn, by omega, hord2, hgood2, hl2, hh2⟩) (by omega))) ⟨rfl, rfl, rfl, rfl, rfl, trivial⟩
              · skip
                refine J.app ?_
                refine Sq.quiet (i := 6) rfl (Want.none rfl) rfl (ltN rfl) (QP.move rfl rfl).read ?_
                refine Sq.quiet (i := 7) rfl (Want.none rfl) rfl (ltN rfl) (QP.extract rfl rfl rfl).read ?_
                refine Sq.quiet (i := 8) rfl (Want.none rfl) rfl (ltN rfl) (QP.extract rfl rfl rfl).read ?_
                refine Sq.eff (i := 9) rfl (Want.none rfl) rfl (ltN rfl) (EF.allocA (l := Source.enc Source.zero) rfl zero45) ?_
                rintro _ _ ⟨b11, rfl, rfl⟩
                refine Sq.act (i := 10) rfl (Want.none rfl) rfl (EF.storeA rfl rfl rfl z45 (SetL.all (Source.enc_len _) (Source.enc_len _)) (Source.enc_cell _)) ?_
                rintro _ _ rfl
                refine Sq.quiet (i := 11) rfl (Want.none rfl) rfl (ltN rfl) (QP.assign rfl rfl).read ?_
                refine Sq.nil ?_
                refine hk51 _ _ ?_
                refine Run.seq fun k56 hk56 => ?_
                refine Run.region ?_
                show Sq _ _ _ [0, 1, 2, 3, 4, 5, 6] _ _ _ _
                refine Sq.quiet (i := 0) rfl (Want.none rfl) rfl (ltN rfl) (QP.move rfl rfl).read ?_
                refine Sq.quiet (i := 1) rfl (Want.none rfl) rfl (ltN rfl) (QP.fieldAddr rfl rfl f39_2).read ?_
                refine Sq.quiet (i := 2) rfl (Want.none rfl) rfl (ltN rfl) (QR.load rfl rfl g28 (Law15Act.sub_p _)) ?_
                refine Sq.quiet (i := 3) rfl (Want.none rfl) rfl (ltN rfl) (QP.fieldAddr rfl rfl f39_3).read ?_
                refine Sq.quiet (i := 4) rfl (Want.none rfl) rfl (ltN rfl) (QR.load rfl rfl g30 (Law15Act.sub_id_ _)) ?_
                refine Sq.eff (i := 5) rfl (Want.none rfl) rfl (ltN rfl) (EF.call rfl ce23 rfl (.cons (by repeat (first | exact Pick.head | apply Pick.tail)) (.cons (by repeat (first | exact Pick.head | apply Pick.tail)) Takes.nil)) (fun F' hle hr => rfind_spec F' hh2 (by omega) x.p x.id_)) ?_
                rintro _ _ ⟨_, ⟨rfl, n115, rfl, hfind⟩, rfl⟩
                refine J.app ?_
                obtain ⟨ky, rfl, hky⟩ : ∃ ky : Nat, n115 = ky ∧ L2[ky]? = some s := find_some hord2 h0 hfind
                have hkl : ky < L2.length := (List.getElem?_eq_some_iff.1 hky).1
                refine Sq.quiet (i := 6) rfl (Want.none rfl) rfl (ltN rfl) (QP.assign rfl rfl).read ?_
                refine Sq.nil ?_
                refine hk56 _ _ ?_
                refine Run.seq fun k57 hk57 => ?_
                refine Run.region ?_
                show Sq _ _ _ [0, 1, 2, 3, 4, 5, 6] _ _ _ _
                refine Sq.quiet (i := 0) rfl (Want.none rfl) rfl (ltN rfl) (QP.move rfl rfl).read ?_
                refine Sq.eff (i := 1) rfl (Want.none rfl) rfl (ltN rfl) (EF.call rfl ce16 rfl (.cons (by repeat (first | exact Pick.head | apply Pick.tail)) Takes.nil) (fun F' hle hr => nextT2 F' hord2 (by rw [← hord2.length]; omega) hn3 hgood2)) ?_
                rintro _ _ ⟨_, ⟨n1, k1_, rfl, hn1x, rfl⟩, rfl⟩
                refine J.app ?_
                refine Sq.quiet (i := 2) rfl (Want.none rfl) rfl (ltN rfl) (QP.move rfl rfl).read ?_
                refine Sq.quiet (i := 3) rfl (Want.none rfl) rfl (ltN rfl) (QP.extract rfl rfl rfl).read ?_
                refine Sq.quiet (i := 4) rfl (Want.none rfl) rfl (ltN rfl) (QP.extract rfl rfl rfl).read ?_
                refine Sq.quiet (i := 5) rfl (Want.none rfl) rfl (ltN rfl) (QP.assign rfl rfl).read ?_
                refine Sq.quiet (i := 6) rfl (Want.none rfl) rfl (ltN rfl) (QP.assign rfl rfl).read ?_
                refine Sq.nil ?_
                refine hk57 _ _ ?_
                refine Run.seq fun k58 hk58 => ?_
                refine Run.region ?_
                show Sq _ _ _ [0, 1, 2, 3, 4, 5, 6] _ _ _ _
                refine Sq.quiet (i := 0) rfl (Want.none rfl) rfl (ltN rfl) (QP.move rfl rfl).read ?_
                refine Sq.eff (i := 1) rfl (Want.none rfl) rfl (ltN rfl) (EF.call rfl ce24 rfl (.cons (by repeat (first | exact Pick.head | apply Pick.tail)) (.cons (by repeat (first | exact Pick.head | apply Pick.tail)) Takes.nil)) (fun F' hle hr => rnext_spec F' hh2 (by omega) (fun y hy => ⟨(hgood2 y hy).1, Int.le_trans (hgood2 y hy).2.1 hn2⟩))) ?_
                rintro _ _ ⟨_, ⟨rfl, m2, k2_, rfl, hn2x⟩, rfl⟩
                refine J.app ?_
                refine Sq.quiet (i := 2) rfl (Want.none rfl) rfl (ltN rfl) (QP.move rfl rfl).read ?_
                refine Sq.quiet (i := 3) rfl (Want.none rfl) rfl (ltN rfl) (QP.extract rfl rfl rfl).read ?_
                refine Sq.quiet (i := 4) rfl (Want.none rfl) rfl (ltN rfl) (QP.extract rfl rfl rfl).read ?_
                refine Sq.quiet (i := 5) rfl (Want.none rfl) rfl (ltN rfl) (QP.assign rfl rfl).read ?_
                refine Sq.quiet (i := 6) rfl (Want.none rfl) rfl (ltN rfl) (QP.assign rfl rfl).read ?_
                refine Sq.nil ?_
                refine hk58 _ _ ?_
                refine Run.seq fun k59 hk59 => ?_
                refine Run.regionD (M := [0, 1, 3, 7, 15, 7, 39, 103, 231, 511, 1023, 2047, 4095, 8191, 8191, 24575, 65535, 131071, 262143, 524287, 1048575, 2097151, 2097151, 6291455, 14680063, 31457279, 2097151, 132120575, 266338303, 536870911, 1073741823, 2147483647, 4294967295, 8589934591, 17179869183, 34359738367, 68719476735, 68719476735, 274877906943, 549755813887, 1099511627775, 2199023255551, 4398046511103, 4398046511103, 17592186044415, 35184372088831, 70368744177663, 140737488355327, 140737488355327, 562949953421311, 1125899906842623, 2251799813685247, 4503599627370495, 4503599627370495, 13510798882111487, 4503599627370495, 40532396646334463, 4503599627370495, 148618787703226367, 576460752303423487, 4503599627370495, 4503599627370495, 2310346608841064447, 4503599627370495, 9227875636482146303, 4503599627370495, 36897991747046473727, 147573952589676412927, 295147905179352825855, 590295810358705651711]) (q := 1032441207375431466479) (r := 97223708824697831680) (by kernel_rfl) ?_
                refine Dw.pure (i := 0) rfl (by kernel_rfl) (Want.none rfl) rfl (ltN rfl) (QP.move rfl rfl) ?_
                refine Dw.pure (i := 1) rfl (by kernel_rfl) (Want.none rfl) rfl (ltN rfl) (QP.not rfl rfl) ?_
                refine Dw.pure (i := 2) rfl (by kernel_rfl) (Want.none rfl) rfl (ltN rfl) (QP.move rfl rfl) ?_
                refine Dw.pure (i := 3) rfl (by kernel_rfl) (Want.yes rfl rfl rfl rfl) rfl (ltN rfl) (QP.move rfl rfl) ?_
                refine Dw.pure (i := 5) rfl (by kernel_rfl) (Want.yes rfl rfl rfl rfl) rfl (ltN rfl) (QP.move rfl rfl) ?_
                refine Dw.pure (i := 6) rfl (by kernel_rfl) (Want.yes rfl rfl rfl rfl) rfl (ltN rfl) (QP.nilCheck rfl rfl) ?_
                refine Dw.pure (i := 7) rfl (by kernel_rfl) (Want.yes rfl rfl rfl rfl) rfl (ltN rfl) (QP.fieldAddr rfl rfl f56_1) ?_
                refine Dw.read (i := 8) rfl (by kernel_rfl) (Want.yes rfl rfl rfl rfl) rfl (ltN rfl) (QR.load1 (v := .slice _ L2.length _) rfl rfl g42 (Ref15Table.sub_l _)) ?_
                refine Dw.eff (i := 4) (by kernel_rfl) (by kernel_rfl) ?_
                refine One.mk (o := _) (l := [8]) rfl (by kernel_rfl) (Want.yes rfl rfl rfl rfl) rfl (ltN rfl) (EF.call rfl ce15 rfl (.cons (by repeat (first | exact Pick.head | apply Pick.tail)) Takes.nil) (fun F' hle hr => listT2 F' hord2 (by rw [← hord2.length]; omega))) (by kernel_rfl) ?_
                rintro v130 _ ⟨_, rfl, rfl⟩
                refine ⟨?_, ?_⟩
                · rw [List.forall_mem_cons]
                  refine ⟨?_, fun _ h => (by cases h)⟩
                  · refine Look.app ?_
                    exact Look.mk rfl rfl rfl (QR.load1 (v := .slice _ L2.length _) rfl rfl g42 (Ref15Table.sub_l _))
                refine ?_
                refine J.app ?_
                refine Dw.slCase (v := v130) (xs := L2) (by repeat (first | exact List.Mem.head _ | apply List.Mem.tail)) (fun a130 c130 hv130 hh130 => ?_)
                subst hv130
                refine Dw.eff (i := 9) (by kernel_rfl) (by kernel_rfl) ?_
                refine One.mk (o := _) (l := []) rfl (by kernel_rfl) (Want.yes rfl rfl rfl rfl) rfl (ltN rfl) (EF.call rfl ce19 rfl (.cons (by repeat (first | exact Pick.head | apply Pick.tail)) (.cons (by repeat (first | exact Pick.head | apply Pick.tail)) Takes.nil)) (fun F' hle hr => same_spec F' hh130 hh2 (by omega) (by omega))) (by kernel_rfl) ?_
                rintro _ _ ⟨_, ⟨rfl, rfl⟩, rfl⟩
                refine ⟨fun _ h => (by cases h), ?_⟩
                refine J.app ?_
                refine J.boolT (by simp) ?_
                refine Dw.pure (i := 10) rfl (by kernel_rfl) (Want.yes rfl rfl rfl rfl) rfl (ltN rfl) (QP.not rfl rfl) ?_
                refine Dw.pure (i := 11) rfl (by kernel_rfl) (Want.none rfl) rfl (ltN rfl) (QP.pick_f rfl rfl rfl) ?_
                refine Dw.pure (i := 12) rfl (by kernel_rfl) (Want.none rfl) rfl (ltN rfl) (QP.move rfl rfl) ?_
                refine Dw.pure (i := 13) rfl (by kernel_rfl) (Want.yes rfl rfl rfl rfl) rfl (ltN rfl) (QP.move rfl rfl) ?_
                refine Dw.pure (i := 14) rfl (by kernel_rfl) (Want.yes rfl rfl rfl rfl) rfl (ltN rfl) (QP.move rfl rfl) ?_
                refine Dw.pure (i := 15) rfl (by kernel_rfl) (Want.yes rfl rfl rfl rfl) rfl (ltN rfl) (QP.geq rfl rfl rfl) ?_
                refine J.decT (by omega) ?_
                refine Dw.pure (i := 16) rfl (by kernel_rfl) (Want.yes rfl rfl rfl rfl) rfl (ltN rfl) (QP.neqB rfl rfl rfl Try.underlying4) ?_
                refine J.boolF (rfl) ?_
                refine Dw.pure (i := 17) rfl (by kernel_rfl) (Want.none rfl) rfl (ltN rfl) (QP.pick_f rfl rfl rfl) ?_
                refine Dw.pure (i := 18) rfl (by kernel_rfl) (Want.none rfl) rfl (ltN rfl) (QP.move rfl rfl) ?_
                refine Dw.pure (i := 19) rfl (by kernel_rfl) (Want.yes rfl rfl rfl rfl) rfl (ltN rfl) (QP.move rfl rfl) ?_
                refine Dw.pure (i := 20) rfl (by kernel_rfl) (Want.yes rfl rfl rfl rfl) rfl (ltN rfl) (QP.move rfl rfl) ?_
                refine Dw.read (i := 21) rfl (by kernel_rfl) (Want.yes rfl rfl rfl rfl) rfl (ltN rfl) (QR.load rfl rfl g45 (Source.enc_sub _)) ?_
                refine Dw.pure (i := 22) rfl (by kernel_rfl) (Want.yes rfl rfl rfl rfl) rfl (ltN rfl) (QP.move rfl rfl) ?_
                refine Dw.pure (i := 23) rfl (by kernel_rfl) (Want.yes rfl rfl rfl rfl) rfl (ltN rfl) (QP.nilCheck rfl rfl) ?_
                refine Dw.pure (i := 24) rfl (by kernel_rfl) (Want.yes rfl rfl rfl rfl) rfl (ltN rfl) (QP.fieldAddr rfl rfl f56_1) ?_
                refine Dw.read (i := 25) rfl (by kernel_rfl) (Want.yes rfl rfl rfl rfl) rfl (ltN rfl) (QR.load1 (v := .slice _ L2.length _) rfl rfl g42 (Ref15Table.sub_l _)) ?_
                refine Dw.pure (i := 26) rfl (by kernel_rfl) (Want.yes rfl rfl rfl rfl) rfl (ltN rfl) (QP.move rfl rfl) ?_
                obtain ⟨b0y, o0y, rfl⟩ := hh2.get (by omega)
                refine Dw.pure (i := 27) rfl (by kernel_rfl) (Want.yes rfl rfl rfl rfl) rfl (ltN rfl) (QP.indexAddr rfl rfl rfl Try.underlying42 z45 (by first | omega | (simp <;> omega)) (by first | omega | (simp <;> omega))) ?_
                refine Dw.read (i := 28) rfl (by kernel_rfl) (Want.yes rfl rfl rfl rfl) rfl (ltN rfl) (QR.loadSl rfl rfl g45 Source.enc_len (SlAt.own Source.enc_len (by repeat (first | exact List.Mem.head _ | apply List.Mem.tail))) hky) ?_
                refine Dw.pure (i := 29) rfl (by kernel_rfl) (Want.yes rfl rfl rfl rfl) rfl (ltN rfl) (QP.neq_agg eq45 rfl rfl rfl) ?_
                refine J.decF (by simp) ?_
                refine Dw.pure (i := 30) rfl (by kernel_rfl) (Want.yes rfl rfl rfl rfl) rfl (ltN rfl) (QP.pick_t rfl rfl rfl) ?_
                refine Dw.pure (i := 31) rfl (by kernel_rfl) (Want.none rfl) rfl (ltN rfl) (QP.pick_f rfl rfl rfl) ?_
                refine Dw.pure (i := 32) rfl (by kernel_rfl) (Want.none rfl) rfl (ltN rfl) (QP.move rfl rfl) ?_
                refine Dw.pure (i := 33) rfl (by kernel_rfl) (Want.yes rfl rfl rfl rfl) rfl (ltN rfl) (QP.move rfl rfl) ?_
                refine Dw.pure (i := 34) rfl (by kernel_rfl) (Want.yes rfl rfl rfl rfl) rfl (ltN rfl) (QP.not rfl rfl) ?_
                refine Dw.pure (i := 35) rfl (by kernel_rfl) (Want.yes rfl rfl rfl rfl) rfl (ltN rfl) (QP.move rfl rfl) ?_
                refine Dw.skip (i := 36) rfl (by kernel_rfl) (Want.no rfl rfl rfl rfl) rfl (ltN rfl) ?_
                refine Dw.skip (i := 37) rfl (by kernel_rfl) (Want.no rfl rfl rfl rfl) rfl (ltN rfl) ?_
                refine Dw.skip (i := 38) rfl (by kernel_rfl) (Want.no rfl rfl rfl rfl) rfl (ltN rfl) ?_
                refine Dw.pure (i := 39) rfl (by kernel_rfl) (Want.yes rfl rfl rfl rfl) rfl (ltN rfl) (QP.pick_f rfl rfl rfl) ?_
                refine Dw.pure (i := 40) rfl (by kernel_rfl) (Want.none rfl) rfl (ltN rfl) (QP.pick_f rfl rfl rfl) ?_
                refine Dw.pure (i := 41) rfl (by kernel_rfl) (Want.none rfl) rfl (ltN rfl) (QP.move rfl rfl) ?_
                refine Dw.pure (i := 42) rfl (by kernel_rfl) (Want.yes rfl rfl rfl rfl) rfl (ltN rfl) (QP.move rfl rfl) ?_
                refine Dw.pure (i := 43) rfl (by kernel_rfl) (Want.yes rfl rfl rfl rfl) rfl (ltN rfl) (QP.move rfl rfl) ?_
                refine Dw.pure (i := 44) rfl (by kernel_rfl) (Want.yes rfl rfl rfl rfl) rfl (ltN rfl) (QP.neq rfl rfl rfl) ?_
                refine J.decF (by simp [(hn1x.uniq hn2x).1]) ?_
                refine Dw.pure (i := 45) rfl (by kernel_rfl) (Want.none rfl) rfl (ltN rfl) (QP.pick_f rfl rfl rfl) ?_
                refine Dw.pure (i := 46) rfl (by kernel_rfl) (Want.none rfl) rfl (ltN rfl) (QP.move rfl rfl) ?_
                refine Dw.pure (i := 47) rfl (by kernel_rfl) (Want.yes rfl rfl rfl rfl) rfl (ltN rfl) (QP.move rfl rfl) ?_
                refine Dw.pure (i := 48) rfl (by kernel_rfl) (Want.yes rfl rfl rfl rfl) rfl (ltN rfl) (QP.move rfl rfl) ?_
                refine Dw.pure (i := 49) rfl (by kernel_rfl) (Want.yes rfl rfl rfl rfl) rfl (ltN rfl) (QP.neqB rfl rfl rfl Try.underlying4) ?_
                refine J.boolF (by simp [(hn1x.uniq hn2x).2]) ?_
                refine Dw.pure (i := 50) rfl (by kernel_rfl) (Want.none rfl) rfl (ltN rfl) (QP.pick_f rfl rfl rfl) ?_
                refine Dw.pure (i := 51) rfl (by kernel_rfl) (Want.none rfl) rfl (ltN rfl) (QP.move rfl rfl) ?_
                refine Dw.pure (i := 52) rfl (by kernel_rfl) (Want.yes rfl rfl rfl rfl) rfl (ltN rfl) (QP.move rfl rfl) ?_
                refine Dw.pure (i := 53) rfl (by kernel_rfl) (Want.yes rfl rfl rfl rfl) rfl (ltN rfl) (QP.fieldAddr rfl rfl f39_2) ?_
                refine Dw.read (i := 54) rfl (by kernel_rfl) (Want.yes rfl rfl rfl rfl) rfl (ltN rfl) (QR.load rfl rfl g28 (Law15Act.sub_p _)) ?_
                refine Dw.pure (i := 55) rfl (by kernel_rfl) (Want.yes rfl rfl rfl rfl) rfl (ltN rfl) (QP.fieldAddr rfl rfl f39_3) ?_
                refine Dw.read (i := 56) rfl (by kernel_rfl) (Want.yes rfl rfl rfl rfl) rfl (ltN rfl) (QR.load rfl rfl g30 (Law15Act.sub_id_ _)) ?_
                refine Dw.pure (i := 57) rfl (by kernel_rfl) (Want.yes rfl rfl rfl rfl) rfl (ltN rfl) (QP.fieldAddr rfl rfl f39_4) ?_
                refine Dw.read (i := 58) rfl (by kernel_rfl) (Want.yes rfl rfl rfl rfl) rfl (ltN rfl) (QR.load rfl rfl g33 (Law15Act.sub_d _)) ?_
                refine Dw.pure (i := 60) rfl (by kernel_rfl) (Want.yes rfl rfl rfl rfl) rfl (ltN rfl) (QP.move rfl rfl) ?_
                refine Dw.pure (i := 61) rfl (by kernel_rfl) (Want.yes rfl rfl rfl rfl) rfl (ltN rfl) (QP.fieldAddr rfl rfl f39_2) ?_
                refine Dw.read (i := 62) rfl (by kernel_rfl) (Want.yes rfl rfl rfl rfl) rfl (ltN rfl) (QR.load rfl rfl g28 (Law15Act.sub_p _)) ?_
                refine Dw.pure (i := 63) rfl (by kernel_rfl) (Want.yes rfl rfl rfl rfl) rfl (ltN rfl) (QP.fieldAddr rfl rfl f39_3) ?_
                refine Dw.read (i := 64) rfl (by kernel_rfl) (Want.yes rfl rfl rfl rfl) rfl (ltN rfl) (QR.load rfl rfl g30 (Law15Act.sub_id_ _)) ?_
                refine Dw.pure (i := 65) rfl (by kernel_rfl) (Want.yes rfl rfl rfl rfl) rfl (ltN rfl) (QP.fieldAddr rfl rfl f39_4) ?_
                refine Dw.read (i := 66) rfl (by kernel_rfl) (Want.yes rfl rfl rfl rfl) rfl (ltN rfl) (QR.load rfl rfl g33 (Law15Act.sub_d _)) ?_
                refine Dw.eff (i := 59) (by kernel_rfl) (by kernel_rfl) ?_
                refine One.mk (o := _) (l := [66, 64, 62]) rfl (by kernel_rfl) (Want.yes rfl rfl rfl rfl) rfl (ltN rfl) (EF.call rfl ce14 rfl (.cons (by repeat (first | exact Pick.head | apply Pick.tail)) Takes.nil) (fun F' hle hr => feasT F' x.p x.id_ x.d)) (by kernel_rfl) ?_
                rintro _ _ ⟨_, ⟨rfl, rfl⟩, rfl⟩
                refine ⟨?_, ?_⟩
                · rw [List.forall_mem_cons, List.forall_mem_cons, List.forall_mem_cons]
                  refine ⟨?_, ?_, ?_, fun _ h => (by cases h)⟩
                  · refine Look.app ?_
                    exact Look.mk rfl rfl rfl (QR.load rfl rfl g33 (Law15Act.sub_d _))
                  · refine Look.app ?_
                    exact Look.mk rfl rfl rfl (QR.load rfl rfl g30 (Law15Act.sub_id_ _))
                  · refine Look.app ?_
                    exact Look.mk rfl rfl rfl (QR.load rfl rfl g28 (Law15Act.sub_p _))
                refine ?_
                refine J.app ?_
                refine Dw.eff (i := 67) (by kernel_rfl) (by kernel_rfl) ?_
                refine One.mk (o := _) (l := []) rfl (by kernel_rfl) (Want.yes rfl rfl rfl rfl) rfl (ltN rfl) (EF.call rfl ce25 rfl (.cons (by repeat (first | exact Pick.head | apply Pick.tail)) (.cons (by repeat (first | exact Pick.head | apply Pick.tail)) Takes.nil)) (fun F' hle hr => rfeasible_spec F' hh2 (by omega) (fun y hy => (hgood2 y hy).2.2) x.p x.id_ x.d hxd)) (by kernel_rfl) ?_
                rintro _ _ ⟨_, ⟨rfl, rf, rfl, hrf⟩, rfl⟩
                refine ⟨fun _ h => (by cases h), ?_⟩
                refine J.app ?_
                refine Dw.pure (i := 68) rfl (by kernel_rfl) (Want.yes rfl rfl rfl rfl) rfl (ltN rfl) (QP.neqB rfl rfl rfl Try.underlying4) ?_
                refine J.boolF (by rw [feas_ord hord2 hrf]; simp) ?_
                refine Dw.pure (i := 69) rfl (by kernel_rfl) (Want.none rfl) rfl (ltN rfl) (QP.pick_f rfl rfl rfl) ?_
                refine Dw.nil (by kernel_rfl) ?_
                refine hk59 _ _ ?_
                refine Run.cond_f rfl ?_
                refine Run.skip ?_
                refine hk15 _ _ ?_
                refine Run.region ?_
                show Sq _ _ _ [0, 1, 2] _ _ _ _
                refine Sq.quiet (i := 0) rfl (Want.none rfl) rfl (ltN rfl) (QP.move rfl rfl).read ?_
                refine Sq.quiet (i := 1) rfl (Want.none rfl) rfl (ltN rfl) (QP.add64 rfl rfl rfl (by first | omega | (simp <;> omega)) (by first | omega | (simp <;> omega))).read ?_
                refine Sq.quiet (i := 2) rfl (Want.none rfl) rfl (ltN rfl) (QP.assign rfl rfl).read ?_
                refine Sq.nil ?_
                exact J.envJ (J.keep (.cons (by repeat (first | exact Pick.head | apply Pick.tail)) (.cons (by repeat (first | exact Pick.head | apply Pick.tail)) (.cons (by repeat (first | exact Pick.head | apply Pick.tail)) Takes.nil))) (hl12 (i + 1) (now2) (M2) (L2) (some ⟨b0y, o0y, none⟩) (c3) (⟨by omega, hnn, by omega, hord2, hgood2, hl2, hh2⟩) (by omega))) ⟨rfl, rfl, rfl, rfl, rfl, trivial⟩
      · skip
        refine Sq.nil ?_
        refine hk14 _ _ ?_
        refine Run.cond_f rfl ?_
        refine Run.exit rfl ?_
        refine hk10 _ _ ?_
        refine Run.seq fun k60 hk60 => ?_
        refine Run.region ?_
        show Sq _ _ _ [0, 1] _ _ _ _
        refine Sq.eff (i := 0) rfl (Want.none rfl) rfl (ltN rfl) (EF.call rfl ce9 rfl Takes.nil (fun F' hle hr => live_spec F')) ?_
        rintro _ _ ⟨_, ⟨rfl, rfl⟩, rfl⟩
        refine J.app ?_
        refine Sq.quiet (i := 1) rfl (Want.none rfl) rfl (ltN rfl) (QP.assign rfl rfl).read ?_
        refine Sq.nil ?_
        refine hk60 _ _ ?_
        refine Run.ret ?_
        exact J.ends (res_tmp rfl rfl) Takes.nil ⟨rfl, rfl⟩
  · skip
    refine Sq.quiet (i := 2) rfl (Want.none rfl) rfl (ltN rfl) (QP.not rfl rfl).read ?_
    refine Sq.quiet (i := 3) rfl (Want.none rfl) rfl (ltN rfl) (QP.move rfl rfl).read ?_
    refine Sq.skip (i := 4) rfl (Want.no rfl rfl rfl rfl) rfl (ltN rfl) ?_
    refine Sq.skip (i := 5) rfl (Want.no rfl rfl rfl rfl) rfl (ltN rfl) ?_
    refine Sq.quiet (i := 6) rfl (Want.none rfl) rfl (ltN rfl) (QP.pick_t rfl rfl rfl).read ?_
    refine Sq.nil ?_
    refine hk3 _ _ ?_
    refine Run.cond_t rfl ?_
    refine Run.seq fun k61 hk61 => ?_
    refine Run.region ?_
    show Sq _ _ _ [0, 1] _ _ _ _
    refine Sq.eff (i := 0) rfl (Want.none rfl) rfl (ltN rfl) (EF.call rfl ce9 rfl Takes.nil (fun F' hle hr => live_spec F')) ?_
    rintro _ _ ⟨_, ⟨rfl, rfl⟩, rfl⟩
    refine J.app ?_
    refine Sq.quiet (i := 1) rfl (Want.none rfl) rfl (ltN rfl) (QP.assign rfl rfl).read ?_
    refine Sq.nil ?_
    refine hk61 _ _ ?_
    refine Run.ret ?_
    exact J.ends (res_tmp rfl rfl) Takes.nil ⟨rfl, rfl⟩
end Slb
