/- Q18: a part of the proof that a law of this package holds for every input; no condition. -/
import Derived.Test.YtgelmgaackblcaaQ17
namespace Slb
open Go Go.Proofs
set_option maxRecDepth 20000
theorem law_plays (F : Fr) (most : Int) {a : Option Addr} {xs : List Law18Act} {c : Nat} (hlen : xs.length ≤ 9223372036854775807) (ha : ArgSl F a 46 Law18Act.enc xs) (hw : ∀ x ∈ xs, x.WF) (own asked : Int) (ho : 0 ≤ own ∧ own ≤ 65535) (hak : 0 ≤ asked ∧ asked ≤ 65535) : Spec Try.prog 6 #[.int .i64 most, .slice a xs.length c, .int .u16 own, .int .u16 asked] [] F (fun v S => v = .bool true ∧ S = []) := by
  refine Spec.intro (N := 192) (args := [.int .i64 most, .slice a xs.length c, .int .u16 own, .int .u16 asked]) Try.func6 rfl rfl (by simp) ?_
  refine Run.seq fun k1 hk1 => ?_
  refine Run.region ?_
  show Sq _ _ _ [0] _ _ _ _
  refine Sq.quiet (i := 0) rfl (Want.none rfl) rfl (ltN rfl) (QP.assign rfl rfl).read ?_
  refine Sq.nil ?_
  refine hk1 _ _ ?_
  refine Run.seq fun k2 hk2 => ?_
  refine Run.seq fun k3 hk3 => ?_
  refine Run.region ?_
  show Sq _ _ _ [0, 1, 2, 3, 4, 5, 6] _ _ _ _
  refine Sq.quiet (i := 0) rfl (Want.none rfl) rfl (ltN rfl) (QP.move rfl rfl).read ?_
  refine Sq.eff (i := 1) rfl (Want.none rfl) rfl (ltN rfl) (EF.call rfl ce8 rfl Takes.nil (fun F' hle hr => right_spec F' hlen (ha.mono hle))) ?_
  rintro _ _ ⟨_, ⟨rfl, r, rfl, hright⟩, rfl⟩
  refine J.app ?_
  refine J.caseB (fun c28 => ?_) (fun c28 => ?_)
  · skip
    refine Sq.quiet (i := 2) rfl (Want.none rfl) rfl (ltN rfl) (QP.not rfl rfl).read ?_
    refine Sq.quiet (i := 3) rfl (Want.none rfl) rfl (ltN rfl) (QP.move rfl rfl).read ?_
    refine Sq.quiet (i := 4) rfl (Want.yes rfl rfl rfl rfl) rfl (ltN rfl) (QP.move rfl rfl).read ?_
    refine Sq.quiet (i := 5) rfl (Want.yes rfl rfl rfl rfl) rfl (ltN rfl) (QP.gtr rfl rfl rfl).read ?_
    refine J.caseD (fun c32 => ?_) (fun c32 => ?_)
    · skip
      refine Sq.quiet (i := 6) rfl (Want.none rfl) rfl (ltN rfl) (QP.pick_f rfl rfl rfl).read ?_
      refine Sq.nil ?_
      refine hk3 _ _ ?_
      refine Run.cond_t rfl ?_
      refine Run.seq fun k4 hk4 => ?_
      refine Run.region ?_
      show Sq _ _ _ [0, 1] _ _ _ _
      refine Sq.eff (i := 0) rfl (Want.none rfl) rfl (ltN rfl) (EF.call rfl ce9 rfl Takes.nil (fun F' hle hr => live_spec F')) ?_
      rintro _ _ ⟨_, ⟨rfl, rfl⟩, rfl⟩
      refine J.app ?_
      refine Sq.quiet (i := 1) rfl (Want.none rfl) rfl (ltN rfl) (QP.assign rfl rfl).read ?_
      refine Sq.nil ?_
      refine hk4 _ _ ?_
      refine Run.ret ?_
      exact J.ends (res_tmp rfl rfl) Takes.nil ⟨rfl, rfl⟩
    · skip
      refine Sq.quiet (i := 6) rfl (Want.none rfl) rfl (ltN rfl) (QP.pick_f rfl rfl rfl).read ?_
      refine Sq.nil ?_
      refine hk3 _ _ ?_
      refine Run.cond_f rfl ?_
      refine Run.skip ?_
      refine hk2 _ _ ?_
      refine Run.seq fun k5 hk5 => ?_
      refine Run.region ?_
      show Sq _ _ _ [0, 1, 2] _ _ _ _
      obtain ⟨hl150, hgap⟩ := hright c28
      refine Sq.quiet (i := 0) rfl (Want.none rfl) rfl (ltN rfl) (QP.move rfl rfl).read ?_
      refine Sq.eff (i := 1) rfl (Want.none rfl) rfl (ltN rfl) (EF.call rfl ce10 rfl Takes.nil (fun F' hle hr => newQT F' _)) ?_
      rintro _ _ ⟨_, ⟨b36, rfl, rfl⟩, rfl⟩
      refine J.app ?_
      refine Sq.quiet (i := 2) rfl (Want.none rfl) rfl (ltN rfl) (QP.assign rfl rfl).read ?_
      refine Sq.nil ?_
      refine hk5 _ _ ?_
      refine Run.seq fun k6 hk6 => ?_
      refine Run.region ?_
      show Sq _ _ _ [0, 1, 2, 3] _ _ _ _
      refine J.addSl 67 45 Pending.enc ?_
      refine Sq.quiet (i := 0) rfl (Want.none rfl) rfl (ltN rfl) (QP.move rfl rfl).read ?_
      refine Sq.quiet (i := 1) rfl (Want.none rfl) rfl (ltN rfl) (QP.build (l := Ref18Table.enc ⟨(most), Slc.zero⟩) rfl st57 rfl (by exact ⟨rfl, trivial⟩) rfl).read ?_
      refine Sq.eff (i := 2) rfl (Want.none rfl) rfl (ltN rfl) (EF.boxA rfl rfl) ?_
      rintro _ _ ⟨b39, rfl, rfl⟩
      refine Sq.quiet (i := 3) rfl (Want.none rfl) rfl (ltN rfl) (QP.assign rfl rfl).read ?_
      refine Sq.nil ?_
      refine hk6 _ _ ?_
      refine Run.seq fun k7 hk7 => ?_
      refine Run.seq fun k8 hk8 => ?_
      refine Run.region ?_
      show Sq _ _ _ [0, 1, 2, 3, 4, 5, 6, 7, 8, 9, 10] _ _ _ _
      refine Sq.quiet (i := 0) rfl (Want.none rfl) rfl (ltN rfl) (QP.move rfl rfl).read ?_
      refine Sq.quiet (i := 1) rfl (Want.none rfl) rfl (ltN rfl) (QP.ptr_eq_nil rfl rfl rfl Try.underlying34).read ?_
      refine Sq.quiet (i := 2) rfl (Want.none rfl) rfl (ltN rfl) (QP.move rfl rfl).read ?_
      refine Sq.quiet (i := 3) rfl (Want.yes rfl rfl rfl rfl) rfl (ltN rfl) (QP.move rfl rfl).read ?_
      refine Sq.quiet (i := 4) rfl (Want.yes rfl rfl rfl rfl) rfl (ltN rfl) (QP.move rfl rfl).read ?_
      refine Sq.eff (i := 5) rfl (Want.yes rfl rfl rfl rfl) rfl (ltN rfl) (EF.call rfl ce14 rfl Takes.nil (fun F' hle hr => own_spec F' own asked)) ?_
      rintro _ _ ⟨_, ⟨rfl, rfl⟩, rfl⟩
      refine J.app ?_
      refine Sq.quiet (i := 6) rfl (Want.yes rfl rfl rfl rfl) rfl (ltN rfl) (QP.move rfl rfl).read ?_
      refine Sq.quiet (i := 7) rfl (Want.yes rfl rfl rfl rfl) rfl (ltN rfl) (QP.move rfl rfl).read ?_
      refine Sq.eff (i := 8) rfl (Want.yes rfl rfl rfl rfl) rfl (ltN rfl) (EF.call rfl ce17 rfl Takes.nil (fun F' hle hr => rown_spec F' own asked ho hak)) ?_
      rintro _ _ ⟨_, ⟨rfl, rfl⟩, rfl⟩
      refine J.app ?_
      refine Sq.quiet (i := 9) rfl (Want.yes rfl rfl rfl rfl) rfl (ltN rfl) (QP.neq rfl rfl rfl).read ?_
      refine J.decF (by simp) ?_
      refine Sq.quiet (i := 10) rfl (Want.none rfl) rfl (ltN rfl) (QP.pick_f rfl rfl rfl).read ?_
      refine Sq.nil ?_
      refine hk8 _ _ ?_
      refine Run.cond_f rfl ?_
      refine Run.skip ?_
      refine hk7 _ _ ?_
      refine Run.seq fun k9 hk9 => ?_
      refine Run.region ?_
      show Sq _ _ _ [0] _ _ _ _
      refine Sq.quiet (i := 0) rfl (Want.none rfl) rfl (ltN rfl) (QP.assign rfl rfl).read ?_
      refine Sq.nil ?_
      refine hk9 _ _ ?_
      refine Run.seq fun k10 hk10 => ?_
      refine Run.seq fun k11 hk11 => ?_
      refine Run.region ?_
      show Sq _ _ _ [0] _ _ _ _
      refine Sq.quiet (i := 0) rfl (Want.none rfl) rfl (ltN rfl) (QP.assign rfl rfl).read ?_
      refine Sq.nil ?_
      refine hk11 _ _ ?_
      refine Run.block ?_
      refine Run.loop6 (fun (i : Nat) (now : Int) (M : TabQ) (L : List Pending) (al : Option Addr) (cl : Nat) => i ≤ xs.length ∧ 0 ≤ now ∧ now ≤ i * 1073741824 ∧ OrdQ M L ∧ (∀ y ∈ L, GoodQ now y) ∧ L.length ≤ i ∧ SlH al cl L) (fun i now M L al cl => .cons 1 (.slice a xs.length c) (.cons 9 (.pointer (some ⟨b36, 0, none⟩)) (.cons 10 (.pointer (some ⟨b39, 0, none⟩)) (.cons 11 (.int .i64 now) (.cons 12 (.int .i64 i) (.nil)))))) (fun i now M L al cl => [QTab b36 most M, blk b39 (Ref18Table.enc ⟨most, ⟨al, L.length, cl⟩⟩) 57, slA 67 45 Pending.enc (.slice al L.length cl) L]) (fun i now M L al cl => xs.length - i) (0) (0) ([]) ([]) (none) (0) (⟨Nat.zero_le _, Int.le_refl _, by omega, InOrder.nil, by simp, Nat.le_refl _, .inl ⟨rfl, rfl, rfl⟩⟩) ?_ ?_
      · exact fun _ j => J.envJ (J.keep (.cons (by repeat (first | exact Pick.head | apply Pick.tail)) (.cons (by repeat (first | exact Pick.head | apply Pick.tail)) (.cons (by repeat (first | exact Pick.head | apply Pick.tail)) Takes.nil))) j) ⟨rfl, rfl, rfl, rfl, rfl, trivial⟩
      rintro i now M L al cl ⟨hile, hn0, hn1, hord, hgood, hLi, hh⟩ kl12 hl12
      refine Run.seq fun k13 hk13 => ?_
      refine Run.seq fun k14 hk14 => ?_
      refine Run.region ?_
      show Sq _ _ _ [0, 1, 2, 3] _ _ _ _
      refine Sq.quiet (i := 0) rfl (Want.none rfl) rfl (ltN rfl) (QP.move rfl rfl).read ?_
      refine Sq.quiet (i := 1) rfl (Want.none rfl) rfl (ltN rfl) (QP.move rfl rfl).read ?_
      refine Sq.quiet (i := 2) rfl (Want.none rfl) rfl (ltN rfl) (QP.len rfl rfl rfl Try.underlying22).read ?_
      refine Sq.quiet (i := 3) rfl (Want.none rfl) rfl (ltN rfl) (QP.lss rfl rfl rfl).read ?_
      refine J.caseD (fun c54 => ?_) (fun c54 => ?_)
      · skip
        refine Sq.nil ?_
        refine hk14 _ _ ?_
        refine Run.cond_t rfl ?_
        refine Run.skip ?_
        refine hk13 _ _ ?_
        refine Run.seq fun k15 hk15 => ?_
        refine Run.block ?_
        refine Run.seq fun k16 hk16 => ?_
        refine Run.region ?_
        show Sq _ _ _ [0, 1, 2, 3, 4, 5] _ _ _ _
        have hlt : i < xs.length := by omega
        obtain ⟨x, hi⟩ : ∃ x, xs[i]? = some x := ⟨_, List.getElem?_eq_getElem hlt⟩
        obtain ⟨b0, o0, rfl, hs0⟩ := ha.get (by omega)
        have hg := hgap x (List.mem_of_getElem? hi)
        unfold okGap at hg
        have hxw0 := hw x (List.mem_of_getElem? hi)
        have hxd : x.d.WF := hxw0.2.2.2.2
        have hxw : 0 ≤ x.d.seqno ∧ x.d.seqno ≤ 65535 := hxd.1
        obtain ⟨now2, hnow2⟩ : ∃ now2 : Int, now2 = now + x.gap := ⟨_, rfl⟩
        have hnn : 0 ≤ now2 := by omega
        have hn3 : now2 ≤ 1000000000000 := by omega
        have hn2 : now2 ≤ 2305843009213693952 := by omega
        have hLn : L.length ≤ 1000000 := by omega
        have hMn : M.length ≤ 1000000 := by rw [← hord.length]; exact hLn
        replace hgood := fun y hy => (hgood y hy).mono (show now ≤ now2 by omega)
        refine Sq.quiet (i := 0) rfl (Want.none rfl) rfl (ltN rfl) (QP.move rfl rfl).read ?_
        refine Sq.quiet (i := 1) rfl (Want.none rfl) rfl (ltN rfl) (QP.move rfl rfl).read ?_
        refine Sq.quiet (i := 2) rfl (Want.none rfl) rfl (ltN rfl) (QP.indexAddr rfl rfl rfl Try.underlying22 z47 (by first | omega | (simp only [List.length_map, List.length_append, List.length_cons, List.length_nil, List.length_take, List.length_drop]; omega)) (by first | omega | (simp only [List.length_map, List.length_append, List.length_cons, List.length_nil, List.length_take, List.length_drop]; omega))).read ?_
        refine Sq.quiet (i := 3) rfl (Want.none rfl) rfl (ltN rfl) (QR.loadSl rfl rfl g47 Law18Act.enc_len (hs0 _) hi) ?_
        refine Sq.eff (i := 4) rfl (Want.none rfl) rfl (ltN rfl) (EF.allocA (l := Law18Act.enc Law18Act.zero) rfl zero47) ?_
        rintro _ _ ⟨b13, rfl, rfl⟩
        refine Sq.act (i := 5) rfl (Want.none rfl) rfl (EF.storeA rfl rfl rfl z47 (SetL.all (Law18Act.enc_len _) (Law18Act.enc_len _)) (Law18Act.enc_cell _)) ?_
        rintro _ _ rfl
        refine Sq.nil ?_
        refine hk16 _ _ ?_
        refine Run.seq fun k17 hk17 => ?_
        refine Run.region ?_
        show Sq _ _ _ [0, 1, 2, 3, 4] _ _ _ _
        refine Sq.quiet (i := 0) rfl (Want.none rfl) rfl (ltN rfl) (QP.move rfl rfl).read ?_
        refine Sq.quiet (i := 1) rfl (Want.none rfl) rfl (ltN rfl) (QP.fieldAddr rfl rfl f47_1).read ?_
        refine Sq.quiet (i := 2) rfl (Want.none rfl) rfl (ltN rfl) (QR.load1 rfl rfl g3 (Law18Act.sub_gap _)) ?_
        refine Sq.quiet (i := 3) rfl (Want.none rfl) rfl (ltN rfl) (QP.add64 rfl rfl rfl (by first | omega | (simp only [List.length_map, List.length_append, List.length_cons, List.length_nil, List.length_take, List.length_drop]; omega)) (by first | omega | (simp only [List.length_map, List.length_append, List.length_cons, List.length_nil, List.length_take, List.length_drop]; omega))).read ?_
        rw [← hnow2]
        refine Sq.quiet (i := 4) rfl (Want.none rfl) rfl (ltN rfl) (QP.assign rfl rfl).read ?_
        refine Sq.nil ?_
        refine hk17 _ _ ?_
        refine Run.seq fun k18 hk18 => ?_
        refine Run.region ?_
        show Sq _ _ _ [0] _ _ _ _
        refine Sq.quiet (i := 0) rfl (Want.none rfl) rfl (ltN rfl) (QP.assign rfl rfl).read ?_
        refine Sq.nil ?_
        refine hk18 _ _ ?_
        refine Run.seq fun k19 hk19 => ?_
        refine Run.seq fun k20 hk20 => ?_
        refine Run.region ?_
        show Sq _ _ _ [0, 1] _ _ _ _
        refine Sq.quiet (i := 0) rfl (Want.none rfl) rfl (ltN rfl) (QP.fieldAddr rfl rfl f47_0).read ?_
        refine Sq.quiet (i := 1) rfl (Want.none rfl) rfl (ltN rfl) (QR.load1 rfl rfl g3 (Law18Act.sub_kind _)) ?_
        refine Sq.nil ?_
        refine hk20 _ _ ?_
        refine Run.block ?_
        refine Run.seq fun k21 hk21 => ?_
        refine Run.region ?_
        show Sq _ _ _ [0, 1] _ _ _ _
        refine Sq.quiet (i := 0) rfl (Want.none rfl) rfl (ltN rfl) (QP.eql rfl rfl rfl).read ?_
        refine J.caseD (fun c68 => ?_) (fun c68 => ?_)
        · skip
          refine Sq.quiet (i := 1) rfl (Want.none rfl) rfl (ltN rfl) (QP.assign rfl rfl).read ?_
          refine Sq.nil ?_
          refine hk21 _ _ ?_
          refine Run.cond_t rfl ?_
          refine Run.seq fun k22 hk22 => ?_
          refine Run.region ?_
          show Sq _ _ _ [0, 1, 2, 3, 4, 5, 6, 7, 8, 9, 10, 11, 12, 13, 14] _ _ _ _
          refine Sq.quiet (i := 0) rfl (Want.none rfl) rfl (ltN rfl) (QP.move rfl rfl).read ?_
          refine Sq.quiet (i := 1) rfl (Want.none rfl) rfl (ltN rfl) (QP.move rfl rfl).read ?_
          refine Sq.quiet (i := 2) rfl (Want.none rfl) rfl (ltN rfl) (QP.fieldAddr rfl rfl f47_2).read ?_
          refine Sq.quiet (i := 3) rfl (Want.none rfl) rfl (ltN rfl) (QR.load rfl rfl g28 (Law18Act.sub_p _)) ?_
          refine Sq.quiet (i := 4) rfl (Want.none rfl) rfl (ltN rfl) (QP.fieldAddr rfl rfl f47_3).read ?_
          refine Sq.quiet (i := 5) rfl (Want.none rfl) rfl (ltN rfl) (QR.load rfl rfl g30 (Law18Act.sub_id_ _)) ?_
          refine Sq.quiet (i := 6) rfl (Want.none rfl) rfl (ltN rfl) (QP.fieldAddr rfl rfl f47_4).read ?_
          refine Sq.quiet (i := 7) rfl (Want.none rfl) rfl (ltN rfl) (QP.fieldAddr rfl rfl f45_0).read ?_
          refine Sq.quiet (i := 8) rfl (Want.none rfl) rfl (ltN rfl) (QR.load1 rfl rfl g31 ((Law18Act.sub_d _).trans (Distance.sub_seqno _))) ?_
          refine Sq.eff (i := 9) rfl (Want.none rfl) rfl (ltN rfl) (EF.call rfl ce11 rfl (.cons (by repeat (first | exact Pick.head | apply Pick.tail)) Takes.nil) (fun F' hle hr => askT2 F' now2 hnn hn2 x.p x.id_ x.d.seqno)) ?_
          rintro _ _ ⟨_, ⟨ok1, e1, M2, hask, rfl, rfl⟩, rfl⟩
          refine J.app ?_
          refine Sq.quiet (i := 10) rfl (Want.none rfl) rfl (ltN rfl) (QP.move rfl rfl).read ?_
          refine Sq.quiet (i := 11) rfl (Want.none rfl) rfl (ltN rfl) (QP.extract rfl rfl rfl).read ?_
          refine Sq.quiet (i := 12) rfl (Want.none rfl) rfl (ltN rfl) (QP.extract rfl rfl rfl).read ?_
          refine Sq.quiet (i := 13) rfl (Want.none rfl) rfl (ltN rfl) (QP.assign rfl rfl).read ?_
          refine Sq.quiet (i := 14) rfl (Want.none rfl) rfl (ltN rfl) (QP.assign rfl rfl).read ?_
          refine Sq.nil ?_
          refine hk22 _ _ ?_
          refine Run.seq fun k23 hk23 => ?_
          refine Run.region ?_
          show Sq _ _ _ [0, 1, 2, 3, 4, 5, 6, 7, 8, 9, 10, 11, 12, 13, 14] _ _ _ _
          refine Sq.quiet (i := 0) rfl (Want.none rfl) rfl (ltN rfl) (QP.move rfl rfl).read ?_
          refine Sq.quiet (i := 1) rfl (Want.none rfl) rfl (ltN rfl) (QP.move rfl rfl).read ?_
          refine Sq.quiet (i := 2) rfl (Want.none rfl) rfl (ltN rfl) (QP.fieldAddr rfl rfl f47_2).read ?_
          refine Sq.quiet (i := 3) rfl (Want.none rfl) rfl (ltN rfl) (QR.load rfl rfl g28 (Law18Act.sub_p _)) ?_
          refine Sq.quiet (i := 4) rfl (Want.none rfl) rfl (ltN rfl) (QP.fieldAddr rfl rfl f47_3).read ?_
          refine Sq.quiet (i := 5) rfl (Want.none rfl) rfl (ltN rfl) (QR.load rfl rfl g30 (Law18Act.sub_id_ _)) ?_
          refine Sq.quiet (i := 6) rfl (Want.none rfl) rfl (ltN rfl) (QP.fieldAddr rfl rfl f47_4).read ?_
          refine Sq.quiet (i := 7) rfl (Want.none rfl) rfl (ltN rfl) (QP.fieldAddr rfl rfl f45_0).read ?_
          refine Sq.quiet (i := 8) rfl (Want.none rfl) rfl (ltN rfl) (QR.load1 rfl rfl g31 ((Law18Act.sub_d _).trans (Distance.sub_seqno _))) ?_
          refine Sq.eff (i := 9) rfl (Want.none rfl) rfl (ltN rfl) (EF.call rfl ce18 rfl (.cons (by repeat (first | exact Pick.head | apply Pick.tail)) (.cons (by repeat (first | exact Pick.head | apply Pick.tail)) Takes.nil)) (fun F' hle hr => rask_spec F' hh hLn hord.sort (fun y hy => (hgood y hy).2.2.2.2) now2 hnn hn2 x.p x.id_ x.d.seqno hxw)) ?_
          rintro _ _ ⟨_, ⟨a3, c3, L2, hh2, ok2, e2, rfl, hr, rfl⟩, rfl⟩
          refine J.app ?_
          refine Sq.quiet (i := 10) rfl (Want.none rfl) rfl (ltN rfl) (QP.move rfl rfl).read ?_
          refine Sq.quiet (i := 11) rfl (Want.none rfl) rfl (ltN rfl) (QP.extract rfl rfl rfl).read ?_
          refine Sq.quiet (i := 12) rfl (Want.none rfl) rfl (ltN rfl) (QP.extract rfl rfl rfl).read ?_
          refine Sq.quiet (i := 13) rfl (Want.none rfl) rfl (ltN rfl) (QP.assign rfl rfl).read ?_
          refine Sq.quiet (i := 14) rfl (Want.none rfl) rfl (ltN rfl) (QP.assign rfl rfl).read ?_
          refine Sq.nil ?_
          refine hk23 _ _ ?_
          refine Run.region ?_
          show Sq _ _ _ [0, 1, 2, 3, 4, 5, 6, 7, 8, 9] _ _ _ _
          obtain ⟨rfl, rfl, hord2⟩ := ask_ord hord hask hr
          obtain ⟨hgood2, hl2⟩ := ask_good hr hnn hxw hgood
          replace hl2 : L2.length ≤ i + 1 := by omega
          refine Sq.quiet (i := 0) rfl (Want.none rfl) rfl (ltN rfl) (QP.move rfl rfl).read ?_
          refine Sq.quiet (i := 1) rfl (Want.none rfl) rfl (ltN rfl) (QP.move rfl rfl).read ?_
          refine Sq.quiet (i := 2) rfl (Want.none rfl) rfl (ltN rfl) (QP.eqlB rfl rfl rfl Try.underlying4).read ?_
          refine J.boolT (by simp) ?_
          refine Sq.quiet (i := 3) rfl (Want.none rfl) rfl (ltN rfl) (QP.move rfl rfl).read ?_
          refine Sq.quiet (i := 4) rfl (Want.yes rfl rfl rfl rfl) rfl (ltN rfl) (QP.move rfl rfl).read ?_
          refine Sq.eff (i := 5) rfl (Want.yes rfl rfl rfl rfl) rfl (ltN rfl) (EF.call rfl ce19 rfl Takes.nil (fun F' hle hr => num_spec F' _)) ?_
          rintro _ _ ⟨_, ⟨rfl, rfl⟩, rfl⟩
          refine J.app ?_
          refine Sq.quiet (i := 6) rfl (Want.yes rfl rfl rfl rfl) rfl (ltN rfl) (QP.move rfl rfl).read ?_
          refine Sq.quiet (i := 7) rfl (Want.yes rfl rfl rfl rfl) rfl (ltN rfl) (QP.eql rfl rfl rfl).read ?_
          refine J.decT (rfl) ?_
          refine Sq.quiet (i := 8) rfl (Want.none rfl) rfl (ltN rfl) (QP.pick_t rfl rfl rfl).read ?_
          refine Sq.quiet (i := 9) rfl (Want.none rfl) rfl (ltN rfl) (QP.assign rfl rfl).read ?_
          refine Sq.nil ?_
          refine hk19 _ _ ?_
          refine Run.seq fun k24 hk24 => ?_
          refine Run.region ?_
          show Sq _ _ _ [0, 1, 2, 3, 4, 5, 6] _ _ _ _
          refine Sq.quiet (i := 0) rfl (Want.none rfl) rfl (ltN rfl) (QP.move rfl rfl).read ?_
          refine Sq.eff (i := 1) rfl (Want.none rfl) rfl (ltN rfl) (EF.call rfl ce24 rfl (.cons (by repeat (first | exact Pick.head | apply Pick.tail)) Takes.nil) (fun F' hle hr => nextT2 F' hord2 (by rw [← hord2.length]; omega))) ?_
          rintro _ _ ⟨_, ⟨n1, k1_, rfl, hn1x, rfl⟩, rfl⟩
          refine J.app ?_
          refine Sq.quiet (i := 2) rfl (Want.none rfl) rfl (ltN rfl) (QP.move rfl rfl).read ?_
          refine Sq.quiet (i := 3) rfl (Want.none rfl) rfl (ltN rfl) (QP.extract rfl rfl rfl).read ?_
          refine Sq.quiet (i := 4) rfl (Want.none rfl) rfl (ltN rfl) (QP.extract rfl rfl rfl).read ?_
          refine Sq.quiet (i := 5) rfl (Want.none rfl) rfl (ltN rfl) (QP.assign rfl rfl).read ?_
          refine Sq.quiet (i := 6) rfl (Want.none rfl) rfl (ltN rfl) (QP.assign rfl rfl).read ?_
          refine Sq.nil ?_
          refine hk24 _ _ ?_
          refine Run.seq fun k25 hk25 => ?_
          refine Run.region ?_
          show Sq _ _ _ [0, 1, 2, 3, 4, 5, 6] _ _ _ _
          refine Sq.quiet (i := 0) rfl (Want.none rfl) rfl (ltN rfl) (QP.move rfl rfl).read ?_
          refine Sq.eff (i := 1) rfl (Want.none rfl) rfl (ltN rfl) (EF.call rfl ce25 rfl (.cons (by repeat (first | exact Pick.head | apply Pick.tail)) (.cons (by repeat (first | exact Pick.head | apply Pick.tail)) Takes.nil)) (fun F' hle hr => rnext_spec F' hh2 (by omega))) ?_
          rintro _ _ ⟨_, ⟨rfl, n2, k2_, rfl, hn2x⟩, rfl⟩
          refine J.app ?_
          refine Sq.quiet (i := 2) rfl (Want.none rfl) rfl (ltN rfl) (QP.move rfl rfl).read ?_
          refine Sq.quiet (i := 3) rfl (Want.none rfl) rfl (ltN rfl) (QP.extract rfl rfl rfl).read ?_
          refine Sq.quiet (i := 4) rfl (Want.none rfl) rfl (ltN rfl) (QP.extract rfl rfl rfl).read ?_
          refine Sq.quiet (i := 5) rfl (Want.none rfl) rfl (ltN rfl) (QP.assign rfl rfl).read ?_
          refine Sq.quiet (i := 6) rfl (Want.none rfl) rfl (ltN rfl) (QP.assign rfl rfl).read ?_
          refine Sq.nil ?_
          refine hk25 _ _ ?_
          refine Run.seq fun k26 hk26 => ?_
          refine Run.regionD (M := [0, 1, 3, 7, 15, 7, 39, 103, 231, 511, 1023, 2047, 4095, 8191, 8191, 32767, 65535, 131071, 262143, 262143, 1048575, 2097151]) (q := 4193775) (r := 256) (by kernel_rfl) ?_
          refine Dw.pure (i := 0) rfl (by kernel_rfl) (Want.none rfl) rfl (ltN rfl) (QP.move rfl rfl) ?_
          refine Dw.pure (i := 1) rfl (by kernel_rfl) (Want.none rfl) rfl (ltN rfl) (QP.not rfl rfl) ?_
          refine Dw.pure (i := 2) rfl (by kernel_rfl) (Want.none rfl) rfl (ltN rfl) (QP.move rfl rfl) ?_
          refine Dw.pure (i := 3) rfl (by kernel_rfl) (Want.yes rfl rfl rfl rfl) rfl (ltN rfl) (QP.move rfl rfl) ?_
          refine Dw.pure (i := 5) rfl (by kernel_rfl) (Want.yes rfl rfl rfl rfl) rfl (ltN rfl) (QP.move rfl rfl) ?_
          refine Dw.pure (i := 6) rfl (by kernel_rfl) (Want.yes rfl rfl rfl rfl) rfl (ltN rfl) (QP.nilCheck rfl rfl) ?_
          refine Dw.pure (i := 7) rfl (by kernel_rfl) (Want.yes rfl rfl rfl rfl) rfl (ltN rfl) (QP.fieldAddr rfl rfl f57_1) ?_
          refine Dw.read (i := 8) rfl (by kernel_rfl) (Want.yes rfl rfl rfl rfl) rfl (ltN rfl) (QR.load1 (v := .slice _ L2.length _) rfl rfl g40 (Ref18Table.sub_l _)) ?_
          refine Dw.eff (i := 4) (by kernel_rfl) (by kernel_rfl) ?_
          refine One.mk (o := _) (l := [8]) rfl (by kernel_rfl) (Want.yes rfl rfl rfl rfl) rfl (ltN rfl) (EF.call rfl ce13 rfl (.cons (by repeat (first | exact Pick.head | apply Pick.tail)) Takes.nil) (fun F' hle hr => listT2 F' hord2 (by rw [← hord2.length]; omega))) (by kernel_rfl) ?_
          rintro v173 _ ⟨_, rfl, rfl⟩
          refine ⟨?_, ?_⟩
          · rw [List.forall_mem_cons]
            refine ⟨?_, fun _ h => (by cases h)⟩
            · refine Look.app ?_
              exact Look.mk rfl rfl rfl (QR.load1 (v := .slice _ L2.length _) rfl rfl g40 (Ref18Table.sub_l _))
          refine ?_
          refine J.app ?_
          refine Dw.slCase (v := v173) (xs := L2) (by repeat (first | exact List.Mem.head _ | apply List.Mem.tail)) (fun a173 c173 hv173 hh173 => ?_)
          subst hv173
          refine Dw.eff (i := 9) (by kernel_rfl) (by kernel_rfl) ?_
          refine One.mk (o := _) (l := []) rfl (by kernel_rfl) (Want.yes rfl rfl rfl rfl) rfl (ltN rfl) (EF.call rfl ce23 rfl (.cons (by repeat (first | exact Pick.head | apply Pick.tail)) (.cons (by repeat (first | exact Pick.head | apply Pick.tail)) Takes.nil)) (fun F' hle hr => same_spec F' hh173 hh2 (by omega) (by omega))) (by kernel_rfl) ?_
          rintro _ _ ⟨_, ⟨rfl, rfl⟩, rfl⟩
          refine ⟨fun _ h => (by cases h), ?_⟩
          refine J.app ?_
          refine J.boolT (by simp) ?_
          refine Dw.pure (i := 10) rfl (by kernel_rfl) (Want.yes rfl rfl rfl rfl) rfl (ltN rfl) (QP.not rfl rfl) ?_
          refine Dw.pure (i := 11) rfl (by kernel_rfl) (Want.none rfl) rfl (ltN rfl) (QP.pick_f rfl rfl rfl) ?_
          refine Dw.pure (i := 12) rfl (by kernel_rfl) (Want.none rfl) rfl (ltN rfl) (QP.move rfl rfl) ?_
          refine Dw.pure (i := 13) rfl (by kernel_rfl) (Want.yes rfl rfl rfl rfl) rfl (ltN rfl) (QP.move rfl rfl) ?_
          refine Dw.pure (i := 14) rfl (by kernel_rfl) (Want.yes rfl rfl rfl rfl) rfl (ltN rfl) (QP.move rfl rfl) ?_
          refine Dw.pure (i := 15) rfl (by kernel_rfl) (Want.yes rfl rfl rfl rfl) rfl (ltN rfl) (QP.neq rfl rfl rfl) ?_
          refine J.decF (by simp [(hn1x.uniq hn2x).1]) ?_
          refine Dw.pure (i := 16) rfl (by kernel_rfl) (Want.none rfl) rfl (ltN rfl) (QP.pick_f rfl rfl rfl) ?_
          refine Dw.pure (i := 17) rfl (by kernel_rfl) (Want.none rfl) rfl (ltN rfl) (QP.move rfl rfl) ?_
          refine Dw.pure (i := 18) rfl (by kernel_rfl) (Want.yes rfl rfl rfl rfl) rfl (ltN rfl) (QP.move rfl rfl) ?_
          refine Dw.pure (i := 19) rfl (by kernel_rfl) (Want.yes rfl rfl rfl rfl) rfl (ltN rfl) (QP.move rfl rfl) ?_
          refine Dw.pure (i := 20) rfl (by kernel_rfl) (Want.yes rfl rfl rfl rfl) rfl (ltN rfl) (QP.neqB rfl rfl rfl Try.underlying4) ?_
          refine J.boolF (by simp [(hn1x.uniq hn2x).2]) ?_
          refine Dw.pure (i := 21) rfl (by kernel_rfl) (Want.none rfl) rfl (ltN rfl) (QP.pick_f rfl rfl rfl) ?_
          refine Dw.nil (by kernel_rfl) ?_
          refine hk26 _ _ ?_
          refine Run.cond_f rfl ?_
          refine Run.skip ?_
          refine hk15 _ _ ?_
          refine Run.region ?_
          show Sq _ _ _ [0, 1, 2] _ _ _ _
          refine Sq.quiet (i := 0) rfl (Want.none rfl) rfl (ltN rfl) (QP.move rfl rfl).read ?_
          refine Sq.quiet (i := 1) rfl (Want.none rfl) rfl (ltN rfl) (QP.add64 rfl rfl rfl (by first | omega | (simp only [List.length_map, List.length_append, List.length_cons, List.length_nil, List.length_take, List.length_drop]; omega)) (by first | omega | (simp only [List.length_map, List.length_append, List.length_cons, List.length_nil, List.length_take, List.length_drop]; omega))).read ?_
          refine Sq.quiet (i := 2) rfl (Want.none rfl) rfl (ltN rfl) (QP.assign rfl rfl).read ?_
          refine Sq.nil ?_
          exact J.envJ (J.keep (.cons (by repeat (first | exact Pick.head | apply Pick.tail)) (.cons (by repeat (first | exact Pick.head | apply Pick.tail)) (.cons (by repeat (first | exact Pick.head | apply Pick.tail)) Takes.nil))) (hl12 (i + 1) (now2) (M2) (L2) (a3) (c3) (⟨by omega, hnn, by omega, hord2, hgood2, hl2, hh2⟩) (by omega))) ⟨rfl, rfl, rfl, rfl, rfl, trivial⟩
        · skip
          refine Sq.quiet (i := 1) rfl (Want.none rfl) rfl (ltN rfl) (QP.assign rfl rfl).read ?_
          refine Sq.nil ?_
          refine hk21 _ _ ?_
          refine Run.cond_f rfl ?_
          refine Run.seq fun k27 hk27 => ?_
          refine Run.region ?_
          show Sq _ _ _ [0, 1] _ _ _ _
          refine Sq.quiet (i := 0) rfl (Want.none rfl) rfl (ltN rfl) (QP.eql rfl rfl rfl).read ?_
          refine J.caseD (fun c105 => ?_) (fun c105 => ?_)
          · skip
            refine Sq.quiet (i := 1) rfl (Want.none rfl) rfl (ltN rfl) (QP.assign rfl rfl).read ?_
            refine Sq.nil ?_
            refine hk27 _ _ ?_
            refine Run.cond_t rfl ?_
            refine Run.regionD (M := [0, 0, 2, 0, 8, 0, 32, 127, 0, 0, 512, 0, 2048, 0, 8192, 32767, 65535, 131071]) (q := 98175) (r := 21588) (by kernel_rfl) ?_
            refine Dw.pure (i := 0) rfl (by kernel_rfl) (Want.none rfl) rfl (ltN rfl) (QP.move rfl rfl) ?_
            refine Dw.pure (i := 1) rfl (by kernel_rfl) (Want.none rfl) rfl (ltN rfl) (QP.fieldAddr rfl rfl f47_2) ?_
            refine Dw.read (i := 2) rfl (by kernel_rfl) (Want.none rfl) rfl (ltN rfl) (QR.load rfl rfl g28 (Law18Act.sub_p _)) ?_
            refine Dw.pure (i := 3) rfl (by kernel_rfl) (Want.none rfl) rfl (ltN rfl) (QP.fieldAddr rfl rfl f47_3) ?_
            refine Dw.read (i := 4) rfl (by kernel_rfl) (Want.none rfl) rfl (ltN rfl) (QR.load rfl rfl g30 (Law18Act.sub_id_ _)) ?_
            refine Dw.pure (i := 5) rfl (by kernel_rfl) (Want.none rfl) rfl (ltN rfl) (QP.fieldAddr rfl rfl f47_4) ?_
            refine Dw.read (i := 6) rfl (by kernel_rfl) (Want.none rfl) rfl (ltN rfl) (QR.load rfl rfl g45 (Law18Act.sub_d _)) ?_
            refine Dw.pure (i := 8) rfl (by kernel_rfl) (Want.none rfl) rfl (ltN rfl) (QP.move rfl rfl) ?_
            refine Dw.pure (i := 9) rfl (by kernel_rfl) (Want.none rfl) rfl (ltN rfl) (QP.fieldAddr rfl rfl f47_2) ?_
            refine Dw.read (i := 10) rfl (by kernel_rfl) (Want.none rfl) rfl (ltN rfl) (QR.load rfl rfl g28 (Law18Act.sub_p _)) ?_
            refine Dw.pure (i := 11) rfl (by kernel_rfl) (Want.none rfl) rfl (ltN rfl) (QP.fieldAddr rfl rfl f47_3) ?_
            refine Dw.read (i := 12) rfl (by kernel_rfl) (Want.none rfl) rfl (ltN rfl) (QR.load rfl rfl g30 (Law18Act.sub_id_ _)) ?_
            refine Dw.pure (i := 13) rfl (by kernel_rfl) (Want.none rfl) rfl (ltN rfl) (QP.fieldAddr rfl rfl f47_4) ?_
            refine Dw.read (i := 14) rfl (by kernel_rfl) (Want.none rfl) rfl (ltN rfl) (QR.load rfl rfl g45 (Law18Act.sub_d _)) ?_
            refine Dw.eff (i := 7) (by kernel_rfl) (by kernel_rfl) ?_
            refine One.mk (o := _) (l := [14, 12, 10]) rfl (by kernel_rfl) (Want.none rfl) rfl (ltN rfl) (EF.call rfl ce15 rfl (.cons (by repeat (first | exact Pick.head | apply Pick.tail)) Takes.nil) (fun F' hle hr => metT2 F' x.p x.id_ x.d)) (by kernel_rfl) ?_
            rintro _ _ ⟨_, ⟨ok1, M2, hmet, rfl, rfl⟩, rfl⟩
            refine ⟨?_, ?_⟩
            · rw [List.forall_mem_cons, List.forall_mem_cons, List.forall_mem_cons]
              refine ⟨?_, ?_, ?_, fun _ h => (by cases h)⟩
              · refine Look.app ?_
                exact Look.mk rfl rfl rfl (QR.load rfl rfl g45 (Law18Act.sub_d _))
              · refine Look.app ?_
                exact Look.mk rfl rfl rfl (QR.load rfl rfl g30 (Law18Act.sub_id_ _))
              · refine Look.app ?_
                exact Look.mk rfl rfl rfl (QR.load rfl rfl g28 (Law18Act.sub_p _))
            refine ?_
            refine J.app ?_
            refine Dw.eff (i := 15) (by kernel_rfl) (by kernel_rfl) ?_
            refine One.mk (o := _) (l := []) rfl (by kernel_rfl) (Want.none rfl) rfl (ltN rfl) (EF.call rfl ce20 rfl (.cons (by repeat (first | exact Pick.head | apply Pick.tail)) (.cons (by repeat (first | exact Pick.head | apply Pick.tail)) Takes.nil)) (fun F' hle hr => rmet_spec F' hh hLn (fun y hy => (hgood y hy).2.2.2.2) x.p x.id_ x.d hxd)) (by kernel_rfl) ?_
            rintro _ _ ⟨_, ⟨a3, c3, L2, hh2, ok2, rfl, hr, rfl⟩, rfl⟩
            refine ⟨fun _ h => (by cases h), ?_⟩
            refine J.app ?_
            obtain ⟨rfl, hord2, hin, hl2⟩ := met_ord hord hmet hr
            have hgood2 : ∀ y ∈ L2, GoodQ now2 y := fun y hy => hgood y (hin y hy)
            have hl2 : L2.length ≤ i + 1 := by omega
            refine Dw.pure (i := 16) rfl (by kernel_rfl) (Want.none rfl) rfl (ltN rfl) (QP.eqlB rfl rfl rfl Try.underlying4) ?_
            refine J.boolT (by simp) ?_
            refine Dw.eff (i := 17) (by kernel_rfl) (by kernel_rfl) ?_
            refine One.mk (o := _) (l := []) rfl (by kernel_rfl) (Want.none rfl) rfl (ltN rfl) ((QP.assign rfl rfl).eff) (by kernel_rfl) ?_
            rintro _ _ ⟨rfl, rfl⟩
            refine ⟨fun _ h => (by cases h), ?_⟩
            refine Dw.nil (by kernel_rfl) ?_
            refine hk19 _ _ ?_
            refine Run.seq fun k28 hk28 => ?_
            refine Run.region ?_
            show Sq _ _ _ [0, 1, 2, 3, 4, 5, 6] _ _ _ _
            refine Sq.quiet (i := 0) rfl (Want.none rfl) rfl (ltN rfl) (QP.move rfl rfl).read ?_
            refine Sq.eff (i := 1) rfl (Want.none rfl) rfl (ltN rfl) (EF.call rfl ce24 rfl (.cons (by repeat (first | exact Pick.head | apply Pick.tail)) Takes.nil) (fun F' hle hr => nextT2 F' hord2 (by rw [← hord2.length]; omega))) ?_
            rintro _ _ ⟨_, ⟨n1, k1_, rfl, hn1x, rfl⟩, rfl⟩
            refine J.app ?_
            refine Sq.quiet (i := 2) rfl (Want.none rfl) rfl (ltN rfl) (QP.move rfl rfl).read ?_
            refine Sq.quiet (i := 3) rfl (Want.none rfl) rfl (ltN rfl) (QP.extract rfl rfl rfl).read ?_
            refine Sq.quiet (i := 4) rfl (Want.none rfl) rfl (ltN rfl) (QP.extract rfl rfl rfl).read ?_
            refine Sq.quiet (i := 5) rfl (Want.none rfl) rfl (ltN rfl) (QP.assign rfl rfl).read ?_
            refine Sq.quiet (i := 6) rfl (Want.none rfl) rfl (ltN rfl) (QP.assign rfl rfl).read ?_
            refine Sq.nil ?_
            refine hk28 _ _ ?_
            refine Run.seq fun k29 hk29 => ?_
            refine Run.region ?_
            show Sq _ _ _ [0, 1, 2, 3, 4, 5, 6] _ _ _ _
            refine Sq.quiet (i := 0) rfl (Want.none rfl) rfl (ltN rfl) (QP.move rfl rfl).read ?_
            refine Sq.eff (i := 1) rfl (Want.none rfl) rfl (ltN rfl) (EF.call rfl ce25 rfl (.cons (by repeat (first | exact Pick.head | apply Pick.tail)) (.cons (by repeat (first | exact Pick.head | apply Pick.tail)) Takes.nil)) (fun F' hle hr => rnext_spec F' hh2 (by omega))) ?_
            rintro _ _ ⟨_, ⟨rfl, n2, k2_, rfl, hn2x⟩, rfl⟩
            refine J.app ?_
            refine Sq.quiet (i := 2) rfl (Want.none rfl) rfl (ltN rfl) (QP.move rfl rfl).read ?_
            refine Sq.quiet (i := 3) rfl (Want.none rfl) rfl (ltN rfl) (QP.extract rfl rfl rfl).read ?_
            refine Sq.quiet (i := 4) rfl (Want.none rfl) rfl (ltN rfl) (QP.extract rfl rfl rfl).read ?_
            refine Sq.quiet (i := 5) rfl (Want.none rfl) rfl (ltN rfl) (QP.assign rfl rfl).read ?_
            refine Sq.quiet (i := 6) rfl (Want.none rfl) rfl (ltN rfl) (QP.assign rfl rfl).read ?_
            refine Sq.nil ?_
            refine hk29 _ _ ?_
            refine Run.seq fun k30 hk30 => ?_
            refine Run.regionD (M := [0, 1, 3, 7, 15, 7, 39, 103, 231, 511, 1023, 2047, 4095, 8191, 8191, 32767, 65535, 131071, 262143, 262143, 1048575, 2097151]) (q := 4193775) (r := 256) (by kernel_rfl) ?_
            refine Dw.pure (i := 0) rfl (by kernel_rfl) (Want.none rfl) rfl (ltN rfl) (QP.move rfl rfl) ?_
            refine Dw.pure (i := 1) rfl (by kernel_rfl) (Want.none rfl) rfl (ltN rfl) (QP.not rfl rfl) ?_
            refine Dw.pure (i := 2) rfl (by kernel_rfl) (Want.none rfl) rfl (ltN rfl) (QP.move rfl rfl) ?_
            refine Dw.pure (i := 3) rfl (by kernel_rfl) (Want.yes rfl rfl rfl rfl) rfl (ltN rfl) (QP.move rfl rfl) ?_
            refine Dw.pure (i := 5) rfl (by kernel_rfl) (Want.yes rfl rfl rfl rfl) rfl (ltN rfl) (QP.move rfl rfl) ?_
            refine Dw.pure (i := 6) rfl (by kernel_rfl) (Want.yes rfl rfl rfl rfl) rfl (ltN rfl) (QP.nilCheck rfl rfl) ?_
            refine Dw.pure (i := 7) rfl (by kernel_rfl) (Want.yes rfl rfl rfl rfl) rfl (ltN rfl) (QP.fieldAddr rfl rfl f57_1) ?_
            refine Dw.read (i := 8) rfl (by kernel_rfl) (Want.yes rfl rfl rfl rfl) rfl (ltN rfl) (QR.load1 (v := .slice _ L2.length _) rfl rfl g40 (Ref18Table.sub_l _)) ?_
            refine Dw.eff (i := 4) (by kernel_rfl) (by kernel_rfl) ?_
            refine One.mk (o := _) (l := [8]) rfl (by kernel_rfl) (Want.yes rfl rfl rfl rfl) rfl (ltN rfl) (EF.call rfl ce13 rfl (.cons (by repeat (first | exact Pick.head | apply Pick.tail)) Takes.nil) (fun F' hle hr => listT2 F' hord2 (by rw [← hord2.length]; omega))) (by kernel_rfl) ?_
            rintro v173 _ ⟨_, rfl, rfl⟩
            refine ⟨?_, ?_⟩
            · rw [List.forall_mem_cons]
              refine ⟨?_, fun _ h => (by cases h)⟩
              · refine Look.app ?_
                exact Look.mk rfl rfl rfl (QR.load1 (v := .slice _ L2.length _) rfl rfl g40 (Ref18Table.sub_l _))
            refine ?_
            refine J.app ?_
            refine Dw.slCase (v := v173) (xs := L2) (by repeat (first | exact List.Mem.head _ | apply List.Mem.tail)) (fun a173 c173 hv173 hh173 => ?_)
            subst hv173
            refine Dw.eff (i := 9) (by kernel_rfl) (by kernel_rfl) ?_
            refine One.mk (o := _) (l := []) rfl (by kernel_rfl) (Want.yes rfl rfl rfl rfl) rfl (ltN rfl) (EF.call rfl ce23 rfl (.cons (by repeat (first | exact Pick.head | apply Pick.tail)) (.cons (by repeat (first | exact Pick.head | apply Pick.tail)) Takes.nil)) (fun F' hle hr => same_spec F' hh173 hh2 (by omega) (by omega))) (by kernel_rfl) ?_
            rintro _ _ ⟨_, ⟨rfl, rfl⟩, rfl⟩
            refine ⟨fun _ h => (by cases h), ?_⟩
            refine J.app ?_
            refine J.boolT (by simp) ?_
            refine Dw.pure (i := 10) rfl (by kernel_rfl) (Want.yes rfl rfl rfl rfl) rfl (ltN rfl) (QP.not rfl rfl) ?_
            refine Dw.pure (i := 11) rfl (by kernel_rfl) (Want.none rfl) rfl (ltN rfl) (QP.pick_f rfl rfl rfl) ?_
            refine Dw.pure (i := 12) rfl (by kernel_rfl) (Want.none rfl) rfl (ltN rfl) (QP.move rfl rfl) ?_
            refine Dw.pure (i := 13) rfl (by kernel_rfl) (Want.yes rfl rfl rfl rfl) rfl (ltN rfl) (QP.move rfl rfl) ?_
            refine Dw.pure (i := 14) rfl (by kernel_rfl) (Want.yes rfl rfl rfl rfl) rfl (ltN rfl) (QP.move rfl rfl) ?_
            refine Dw.pure (i := 15) rfl (by kernel_rfl) (Want.yes rfl rfl rfl rfl) rfl (ltN rfl) (QP.neq rfl rfl rfl) ?_
            refine J.decF (by simp [(hn1x.uniq hn2x).1]) ?_
            refine Dw.pure (i := 16) rfl (by kernel_rfl) (Want.none rfl) rfl (ltN rfl) (QP.pick_f rfl rfl rfl) ?_
            refine Dw.pure (i := 17) rfl (by kernel_rfl) (Want.none rfl) rfl (ltN rfl) (QP.move rfl rfl) ?_
            refine Dw.pure (i := 18) rfl (by kernel_rfl) (Want.yes rfl rfl rfl rfl) rfl (ltN rfl) (QP.move rfl rfl) ?_
            refine Dw.pure (i := 19) rfl (by kernel_rfl) (Want.yes rfl rfl rfl rfl) rfl (ltN rfl) (QP.move rfl rfl) ?_
            refine Dw.pure (i := 20) rfl (by kernel_rfl) (Want.yes rfl rfl rfl rfl) rfl (ltN rfl) (QP.neqB rfl rfl rfl Try.underlying4) ?_
            refine J.boolF (by simp [(hn1x.uniq hn2x).2]) ?_
            refine Dw.pure (i := 21) rfl (by kernel_rfl) (Want.none rfl) rfl (ltN rfl) (QP.pick_f rfl rfl rfl) ?_
            refine Dw.nil (by kernel_rfl) ?_
            refine hk30 _ _ ?_
            refine Run.cond_f rfl ?_
            refine Run.skip ?_
            refine hk15 _ _ ?_
            refine Run.region ?_
            show Sq _ _ _ [0, 1, 2] _ _ _ _
            refine Sq.quiet (i := 0) rfl (Want.none rfl) rfl (ltN rfl) (QP.move rfl rfl).read ?_
            refine Sq.quiet (i := 1) rfl (Want.none rfl) rfl (ltN rfl) (QP.add64 rfl rfl rfl (by first | omega | (simp only [List.length_map, List.length_append, List.length_cons, List.length_nil, List.length_take, List.length_drop]; omega)) (by first | omega | (simp only [List.length_map, List.length_append, List.length_cons, List.length_nil, List.length_take, List.length_drop]; omega))).read ?_
            refine Sq.quiet (i := 2) rfl (Want.none rfl) rfl (ltN rfl) (QP.assign rfl rfl).read ?_
            refine Sq.nil ?_
            exact J.envJ (J.keep (.cons (by repeat (first | exact Pick.head | apply Pick.tail)) (.cons (by repeat (first | exact Pick.head | apply Pick.tail)) (.cons (by repeat (first | exact Pick.head | apply Pick.tail)) Takes.nil))) (hl12 (i + 1) (now2) (M2) (L2) (a3) (c3) (⟨by omega, hnn, by omega, hord2, hgood2, hl2, hh2⟩) (by omega))) ⟨rfl, rfl, rfl, rfl, rfl, trivial⟩
          · skip
            refine Sq.quiet (i := 1) rfl (Want.none rfl) rfl (ltN rfl) (QP.assign rfl rfl).read ?_
            refine Sq.nil ?_
            refine hk27 _ _ ?_
            refine Run.cond_f rfl ?_
            refine Run.seq fun k31 hk31 => ?_
            refine Run.region ?_
            show Sq _ _ _ [0, 1] _ _ _ _
            refine Sq.quiet (i := 0) rfl (Want.none rfl) rfl (ltN rfl) (QP.eql rfl rfl rfl).read ?_
            refine J.caseD (fun c124 => ?_) (fun c124 => ?_)
            · skip
              refine Sq.quiet (i := 1) rfl (Want.none rfl) rfl (ltN rfl) (QP.assign rfl rfl).read ?_
              refine Sq.nil ?_
              refine hk31 _ _ ?_
              refine Run.cond_t rfl ?_
              refine Run.regionD (M := [0, 0, 2, 0, 8, 30, 63, 0, 0, 256, 1023, 2047, 4095]) (q := 2975) (r := 532) (by kernel_rfl) ?_
              refine Dw.pure (i := 0) rfl (by kernel_rfl) (Want.none rfl) rfl (ltN rfl) (QP.move rfl rfl) ?_
              refine Dw.pure (i := 1) rfl (by kernel_rfl) (Want.none rfl) rfl (ltN rfl) (QP.fieldAddr rfl rfl f47_2) ?_
              refine Dw.read (i := 2) rfl (by kernel_rfl) (Want.none rfl) rfl (ltN rfl) (QR.load rfl rfl g28 (Law18Act.sub_p _)) ?_
              refine Dw.pure (i := 3) rfl (by kernel_rfl) (Want.none rfl) rfl (ltN rfl) (QP.fieldAddr rfl rfl f47_2) ?_
              refine Dw.read (i := 4) rfl (by kernel_rfl) (Want.none rfl) rfl (ltN rfl) (QR.load rfl rfl g28 (Law18Act.sub_p _)) ?_
              refine Dw.pure (i := 7) rfl (by kernel_rfl) (Want.none rfl) rfl (ltN rfl) (QP.move rfl rfl) ?_
              refine Dw.pure (i := 8) rfl (by kernel_rfl) (Want.none rfl) rfl (ltN rfl) (QP.fieldAddr rfl rfl f47_2) ?_
              refine Dw.read (i := 9) rfl (by kernel_rfl) (Want.none rfl) rfl (ltN rfl) (QR.load rfl rfl g28 (Law18Act.sub_p _)) ?_
              refine Dw.eff (i := 5) (by kernel_rfl) (by kernel_rfl) ?_
              refine One.mk (o := _) (l := [9]) rfl (by kernel_rfl) (Want.none rfl) rfl (ltN rfl) (EF.buildSliceN (enc := Pair.enc) (xs := [(x).p, (x).p]) rfl Try.underlying83 z28 zero28 (by simp [Value.cells, Pair.enc_len]) (by decide) rfl rfl rfl Pair.enc_len (by decide)) (by kernel_rfl) ?_
              rintro _ _ ⟨b130, rfl, rfl⟩
              refine ⟨?_, ?_⟩
              · rw [List.forall_mem_cons]
                refine ⟨?_, fun _ h => (by cases h)⟩
                · exact Look.mk rfl rfl rfl (QR.load rfl rfl g28 (Law18Act.sub_p _))
              refine ?_
              refine Dw.eff (i := 6) (by kernel_rfl) (by kernel_rfl) ?_
              refine One.mk (o := _) (l := [9]) rfl (by kernel_rfl) (Want.none rfl) rfl (ltN rfl) (EF.call rfl ce16 rfl (.cons (by repeat (first | exact Pick.head | apply Pick.tail)) Takes.nil) (fun F' hle hr => forgetT2 F' hord hMn (p := x.p) (c := 2) (fun _ => ⟨b130, 0, rfl, [x.p, x.p].flatMap Pair.enc, _, (0, 0), hr _ _ (by repeat (first | exact List.Mem.head _ | apply List.Mem.tail)), by simpa [Pair.enc_len] using SubL.all ([x.p, x.p].flatMap Pair.enc)⟩))) (by kernel_rfl) ?_
              rintro _ _ ⟨_, ⟨M2, hord2, rfl, rfl⟩, rfl⟩
              refine ⟨?_, ?_⟩
              · rw [List.forall_mem_cons]
                refine ⟨?_, fun _ h => (by cases h)⟩
                · refine Look.app ?_
                  exact Look.mk rfl rfl rfl (QR.load rfl rfl g28 (Law18Act.sub_p _))
              refine ?_
              refine J.app ?_
              refine Dw.eff (i := 10) (by kernel_rfl) (by kernel_rfl) ?_
              refine One.mk (o := _) (l := []) rfl (by kernel_rfl) (Want.none rfl) rfl (ltN rfl) (EF.call rfl ce21 rfl (.cons (by repeat (first | exact Pick.head | apply Pick.tail)) (.cons (by repeat (first | exact Pick.head | apply Pick.tail)) Takes.nil)) (fun F' hle hr => rforget_spec F' hh hLn x.p)) (by kernel_rfl) ?_
              rintro _ _ ⟨_, ⟨a3, c3, L2, hh2, rfl, hL2, rfl⟩, rfl⟩
              refine ⟨fun _ h => (by cases h), ?_⟩
              refine J.app ?_
              subst hL2
              obtain ⟨L2, hL2⟩ : ∃ L2, L2 = L.filter (notP x.p) := ⟨_, rfl⟩
              rw [← hL2] at hord2 hh2
              rw [← hL2]
              have hgood2 : ∀ y ∈ L2, GoodQ now2 y := fun y hy => hgood y (List.mem_filter.1 (hL2 ▸ hy)).1
              have hl2 : L2.length ≤ i + 1 := by have := List.length_filter_le (notP x.p) L; rw [hL2]; omega
              refine Dw.pure (i := 11) rfl (by kernel_rfl) (Want.none rfl) rfl (ltN rfl) (QP.eql rfl rfl rfl) ?_
              refine J.decT (by rw [hL2]) ?_
              refine Dw.eff (i := 12) (by kernel_rfl) (by kernel_rfl) ?_
              refine One.mk (o := _) (l := []) rfl (by kernel_rfl) (Want.none rfl) rfl (ltN rfl) ((QP.assign rfl rfl).eff) (by kernel_rfl) ?_
              rintro _ _ ⟨rfl, rfl⟩
              refine ⟨fun _ h => (by cases h), ?_⟩
              refine Dw.nil (by kernel_rfl) ?_
              refine hk19 _ _ ?_
              refine Run.seq fun k32 hk32 => ?_
              refine Run.region ?_
              show Sq _ _ _ [0, 1, 2, 3, 4, 5, 6] _ _ _ _
              refine Sq.quiet (i := 0) rfl (Want.none rfl) rfl (ltN rfl) (QP.move rfl rfl).read ?_
              refine Sq.eff (i := 1) rfl (Want.none rfl) rfl (ltN rfl) (EF.call rfl ce24 rfl (.cons (by repeat (first | exact Pick.head | apply Pick.tail)) Takes.nil) (fun F' hle hr => nextT2 F' hord2 (by rw [← hord2.length]; omega))) ?_
              rintro _ _ ⟨_, ⟨n1, k1_, rfl, hn1x, rfl⟩, rfl⟩
              refine J.app ?_
              refine Sq.quiet (i := 2) rfl (Want.none rfl) rfl (ltN rfl) (QP.move rfl rfl).read ?_
              refine Sq.quiet (i := 3) rfl (Want.none rfl) rfl (ltN rfl) (QP.extract rfl rfl rfl).read ?_
              refine Sq.quiet (i := 4) rfl (Want.none rfl) rfl (ltN rfl) (QP.extract rfl rfl rfl).read ?_
              refine Sq.quiet (i := 5) rfl (Want.none rfl) rfl (ltN rfl) (QP.assign rfl rfl).read ?_
              refine Sq.quiet (i := 6) rfl (Want.none rfl) rfl (ltN rfl) (QP.assign rfl rfl).read ?_
              refine Sq.nil ?_
              refine hk32 _ _ ?_
              refine Run.seq fun k33 hk33 => ?_
              refine Run.region ?_
              show Sq _ _ _ [0, 1, 2, 3, 4, 5, 6] _ _ _ _
              refine Sq.quiet (i := 0) rfl (Want.none rfl) rfl (ltN rfl) (QP.move rfl rfl).read ?_
              refine Sq.eff (i := 1) rfl (Want.none rfl) rfl (ltN rfl) (EF.call rfl ce25 rfl (.cons (by repeat (first | exact Pick.head | apply Pick.tail)) (.cons (by repeat (first | exact Pick.head | apply Pick.tail)) Takes.nil)) (fun F' hle hr => rnext_spec F' hh2 (by omega))) ?_
              rintro _ _ ⟨_, ⟨rfl, n2, k2_, rfl, hn2x⟩, rfl⟩
              refine J.app ?_
              refine Sq.quiet (i := 2) rfl (Want.none rfl) rfl (ltN rfl) (QP.move rfl rfl).read ?_
              refine Sq.quiet (i := 3) rfl (Want.none rfl) rfl (ltN rfl) (QP.extract rfl rfl rfl).read ?_
              refine Sq.quiet (i := 4) rfl (Want.none rfl) rfl (ltN rfl) (QP.extract rfl rfl rfl).read ?_
              refine Sq.quiet (i := 5) rfl (Want.none rfl) rfl (ltN rfl) (QP.assign rfl rfl).read ?_
              refine Sq.quiet (i := 6) rfl (Want.none rfl) rfl (ltN rfl) (QP.assign rfl rfl).read ?_
              refine Sq.nil ?_
              refine hk33 _ _ ?_
              refine Run.seq fun k34 hk34 => ?_
              refine Run.regionD (M := [0, 1, 3, 7, 15, 7, 39, 103, 231, 511, 1023, 2047, 4095, 8191, 8191, 32767, 65535, 131071, 262143, 262143, 1048575, 2097151]) (q := 4193775) (r := 256) (by kernel_rfl) ?_
              refine Dw.pure (i := 0) rfl (by kernel_rfl) (Want.none rfl) rfl (ltN rfl) (QP.move rfl rfl) ?_
              refine Dw.pure (i := 1) rfl (by kernel_rfl) (Want.none rfl) rfl (ltN rfl) (QP.not rfl rfl) ?_
              refine Dw.pure (i := 2) rfl (by kernel_rfl) (Want.none rfl) rfl (ltN rfl) (QP.move rfl rfl) ?_
              refine Dw.pure (i := 3) rfl (by kernel_rfl) (Want.yes rfl rfl rfl rfl) rfl (ltN rfl) (QP.move rfl rfl) ?_
              refine Dw.pure (i := 5) rfl (by kernel_rfl) (Want.yes rfl rfl rfl rfl) rfl (ltN rfl) (QP.move rfl rfl) ?_
              refine Dw.pure (i := 6) rfl (by kernel_rfl) (Want.yes rfl rfl rfl rfl) rfl (ltN rfl) (QP.nilCheck rfl rfl) ?_
              refine Dw.pure (i := 7) rfl (by kernel_rfl) (Want.yes rfl rfl rfl rfl) rfl (ltN rfl) (QP.fieldAddr rfl rfl f57_1) ?_
              refine Dw.read (i := 8) rfl (by kernel_rfl) (Want.yes rfl rfl rfl rfl) rfl (ltN rfl) (QR.load1 (v := .slice _ L2.length _) rfl rfl g40 (Ref18Table.sub_l _)) ?_
              refine Dw.eff (i := 4) (by kernel_rfl) (by kernel_rfl) ?_
              refine One.mk (o := _) (l := [8]) rfl (by kernel_rfl) (Want.yes rfl rfl rfl rfl) rfl (ltN rfl) (EF.call rfl ce13 rfl (.cons (by repeat (first | exact Pick.head | apply Pick.tail)) Takes.nil) (fun F' hle hr => listT2 F' hord2 (by rw [← hord2.length]; omega))) (by kernel_rfl) ?_
              rintro v173 _ ⟨_, rfl, rfl⟩
              refine ⟨?_, ?_⟩
              · rw [List.forall_mem_cons]
                refine ⟨?_, fun _ h => (by cases h)⟩
                · refine Look.app ?_
                  exact Look.mk rfl rfl rfl (QR.load1 (v := .slice _ L2.length _) rfl rfl g40 (Ref18Table.sub_l _))
              refine ?_
              refine J.app ?_
              refine Dw.slCase (v := v173) (xs := L2) (by repeat (first | exact List.Mem.head _ | apply List.Mem.tail)) (fun a173 c173 hv173 hh173 => ?_)
              subst hv173
              refine Dw.eff (i := 9) (by kernel_rfl) (by kernel_rfl) ?_
              refine One.mk (o := _) (l := []) rfl (by kernel_rfl) (Want.yes rfl rfl rfl rfl) rfl (ltN rfl) (EF.call rfl ce23 rfl (.cons (by repeat (first | exact Pick.head | apply Pick.tail)) (.cons (by repeat (first | exact Pick.head | apply Pick.tail)) Takes.nil)) (fun F' hle hr => same_spec F' hh173 hh2 (by omega) (by omega))) (by kernel_rfl) ?_
              rintro _ _ ⟨_, ⟨rfl, rfl⟩, rfl⟩
              refine ⟨fun _ h => (by cases h), ?_⟩
              refine J.app ?_
              refine J.boolT (by simp) ?_
              refine Dw.pure (i := 10) rfl (by kernel_rfl) (Want.yes rfl rfl rfl rfl) rfl (ltN rfl) (QP.not rfl rfl) ?_
              refine Dw.pure (i := 11) rfl (by kernel_rfl) (Want.none rfl) rfl (ltN rfl) (QP.pick_f rfl rfl rfl) ?_
              refine Dw.pure (i := 12) rfl (by kernel_rfl) (Want.none rfl) rfl (ltN rfl) (QP.move rfl rfl) ?_
              refine Dw.pure (i := 13) rfl (by kernel_rfl) (Want.yes rfl rfl rfl rfl) rfl (ltN rfl) (QP.move rfl rfl) ?_
              refine Dw.pure (i := 14) rfl (by kernel_rfl) (Want.yes rfl rfl rfl rfl) rfl (ltN rfl) (QP.move rfl rfl) ?_
              refine Dw.pure (i := 15) rfl (by kernel_rfl) (Want.yes rfl rfl rfl rfl) rfl (ltN rfl) (QP.neq rfl rfl rfl) ?_
              refine J.decF (by simp [(hn1x.uniq hn2x).1]) ?_
              refine Dw.pure (i := 16) rfl (by kernel_rfl) (Want.none rfl) rfl (ltN rfl) (QP.pick_f rfl rfl rfl) ?_
              refine Dw.pure (i := 17) rfl (by kernel_rfl) (Want.none rfl) rfl (ltN rfl) (QP.move rfl rfl) ?_
              refine Dw.pure (i := 18) rfl (by kernel_rfl) (Want.yes rfl rfl rfl rfl) rfl (ltN rfl) (QP.move rfl rfl) ?_
              refine Dw.pure (i := 19) rfl (by kernel_rfl) (Want.yes rfl rfl rfl rfl) rfl (ltN rfl) (QP.move rfl rfl) ?_
              refine Dw.pure (i := 20) rfl (by kernel_rfl) (Want.yes rfl rfl rfl rfl) rfl (ltN rfl) (QP.neqB rfl rfl rfl Try.underlying4) ?_
              refine J.boolF (by simp [(hn1x.uniq hn2x).2]) ?_
              refine Dw.pure (i := 21) rfl (by kernel_rfl) (Want.none rfl) rfl (ltN rfl) (QP.pick_f rfl rfl rfl) ?_
              refine Dw.nil (by kernel_rfl) ?_
              refine hk34 _ _ ?_
              refine Run.cond_f rfl ?_
              refine Run.skip ?_
              refine hk15 _ _ ?_
              refine Run.region ?_
              show Sq _ _ _ [0, 1, 2] _ _ _ _
              refine Sq.quiet (i := 0) rfl (Want.none rfl) rfl (ltN rfl) (QP.move rfl rfl).read ?_
              refine Sq.quiet (i := 1) rfl (Want.none rfl) rfl (ltN rfl) (QP.add64 rfl rfl rfl (by first | omega | (simp only [List.length_map, List.length_append, List.length_cons, List.length_nil, List.length_take, List.length_drop]; omega)) (by first | omega | (simp only [List.length_map, List.length_append, List.length_cons, List.length_nil, List.length_take, List.length_drop]; omega))).read ?_
              refine Sq.quiet (i := 2) rfl (Want.none rfl) rfl (ltN rfl) (QP.assign rfl rfl).read ?_
              refine Sq.nil ?_
              exact J.envJ (J.keep (.cons (by repeat (first | exact Pick.head | apply Pick.tail)) (.cons (by repeat (first | exact Pick.head | apply Pick.tail)) (.cons (by repeat (first | exact Pick.head | apply Pick.tail)) Takes.nil))) (hl12 (i + 1) (now2) (M2) (L2) (a3) (c3) (⟨by omega, hnn, by omega, hord2, hgood2, hl2, hh2⟩) (by omega))) ⟨rfl, rfl, rfl, rfl, rfl, trivial⟩
            · skip
              refine Sq.quiet (i := 1) rfl (Want.none rfl) rfl (ltN rfl) (QP.assign rfl rfl).read ?_
              refine Sq.nil ?_
              refine hk31 _ _ ?_
              refine Run.cond_f rfl ?_
              refine Run.seq fun k35 hk35 => ?_
              refine Run.region ?_
              show Sq _ _ _ [0, 1] _ _ _ _
              refine Sq.quiet (i := 0) rfl (Want.none rfl) rfl (ltN rfl) (QP.eql rfl rfl rfl).read ?_
              refine J.caseD (fun c138 => ?_) (fun c138 => ?_)
              · skip
                refine Sq.quiet (i := 1) rfl (Want.none rfl) rfl (ltN rfl) (QP.assign rfl rfl).read ?_
                refine Sq.nil ?_
                refine hk35 _ _ ?_
                refine Run.cond_t rfl ?_
                refine Run.seq fun k36 hk36 => ?_
                refine Run.region ?_
                show Sq _ _ _ [0, 1, 2, 3, 4, 5, 6, 7] _ _ _ _
                refine Sq.quiet (i := 0) rfl (Want.none rfl) rfl (ltN rfl) (QP.move rfl rfl).read ?_
                refine Sq.quiet (i := 1) rfl (Want.none rfl) rfl (ltN rfl) (QP.move rfl rfl).read ?_
                refine Sq.eff (i := 2) rfl (Want.none rfl) rfl (ltN rfl) (EF.call rfl ce12 rfl (.cons (by repeat (first | exact Pick.head | apply Pick.tail)) Takes.nil) (fun F' hle hr => tickT2 F' hord hMn now2 hnn hn3 hgood)) ?_
                rintro _ _ ⟨_, ⟨M2, va, vg, hord2, rfl, rfl⟩, rfl⟩
                refine J.app ?_
                refine Sq.quiet (i := 3) rfl (Want.none rfl) rfl (ltN rfl) (QP.move rfl rfl).read ?_
                refine Sq.quiet (i := 4) rfl (Want.none rfl) rfl (ltN rfl) (QP.extract rfl rfl rfl).read ?_
                refine Sq.quiet (i := 5) rfl (Want.none rfl) rfl (ltN rfl) (QP.extract rfl rfl rfl).read ?_
                refine Sq.quiet (i := 6) rfl (Want.none rfl) rfl (ltN rfl) (QP.assign rfl rfl).read ?_
                refine Sq.quiet (i := 7) rfl (Want.none rfl) rfl (ltN rfl) (QP.assign rfl rfl).read ?_
                refine Sq.nil ?_
                refine hk36 _ _ ?_
                refine Run.seq fun k37 hk37 => ?_
                refine Run.region ?_
                show Sq _ _ _ [0, 1, 2, 3, 4, 5, 6, 7] _ _ _ _
                refine Sq.quiet (i := 0) rfl (Want.none rfl) rfl (ltN rfl) (QP.move rfl rfl).read ?_
                refine Sq.quiet (i := 1) rfl (Want.none rfl) rfl (ltN rfl) (QP.move rfl rfl).read ?_
                refine Sq.eff (i := 2) rfl (Want.none rfl) rfl (ltN rfl) (EF.call rfl ce22 rfl (.cons (by repeat (first | exact Pick.head | apply Pick.tail)) (.cons (by repeat (first | exact Pick.head | apply Pick.tail)) Takes.nil)) (fun F' hle hr => rtick_spec F' hh hLn now2 hnn hn2 (fun y hy => (hgood y hy).ok hn3))) ?_
                rintro _ _ ⟨_, ⟨a3, c3, vb, vh, hh2, rfl, rfl⟩, rfl⟩
                refine J.app ?_
                have hti := rtickQ_len now2 L.length L (Nat.le_refl _)
                rw [List.take_length] at hti
                refine Sq.slCase (v := va) (xs := (rtickQ now2 L).2.1) (by repeat (first | exact List.Mem.head _ | apply List.Mem.tail)) (fun ava cva hvva hhva => ?_)
                subst hvva
                refine Sq.slCase (v := vg) (xs := (rtickQ now2 L).2.2) (by repeat (first | exact List.Mem.head _ | apply List.Mem.tail)) (fun avg cvg hvvg hhvg => ?_)
                subst hvvg
                refine Sq.slCase (v := vb) (xs := (rtickQ now2 L).2.1) (by repeat (first | exact List.Mem.head _ | apply List.Mem.tail)) (fun avb cvb hvvb hhvb => ?_)
                subst hvvb
                refine Sq.slCase (v := vh) (xs := (rtickQ now2 L).2.2) (by repeat (first | exact List.Mem.head _ | apply List.Mem.tail)) (fun avh cvh hvvh hhvh => ?_)
                subst hvvh
                refine Sq.quiet (i := 3) rfl (Want.none rfl) rfl (ltN rfl) (QP.move rfl rfl).read ?_
                refine Sq.quiet (i := 4) rfl (Want.none rfl) rfl (ltN rfl) (QP.extract rfl rfl rfl).read ?_
                refine Sq.quiet (i := 5) rfl (Want.none rfl) rfl (ltN rfl) (QP.extract rfl rfl rfl).read ?_
                refine Sq.quiet (i := 6) rfl (Want.none rfl) rfl (ltN rfl) (QP.assign rfl rfl).read ?_
                refine Sq.quiet (i := 7) rfl (Want.none rfl) rfl (ltN rfl) (QP.assign rfl rfl).read ?_
                refine Sq.nil ?_
                refine hk37 _ _ ?_
                refine Run.region ?_
                show Sq _ _ _ [0, 1, 2, 3, 4, 5, 6, 7, 8] _ _ _ _
                refine Sq.quiet (i := 0) rfl (Want.none rfl) rfl (ltN rfl) (QP.move rfl rfl).read ?_
                refine Sq.quiet (i := 1) rfl (Want.none rfl) rfl (ltN rfl) (QP.move rfl rfl).read ?_
                refine Sq.eff (i := 2) rfl (Want.none rfl) rfl (ltN rfl) (EF.call rfl ce23 rfl (.cons (by repeat (first | exact Pick.head | apply Pick.tail)) (.cons (by repeat (first | exact Pick.head | apply Pick.tail)) Takes.nil)) (fun F' hle hr => same_spec F' hhva hhvb (by omega) (by omega))) ?_
                rintro _ _ ⟨_, ⟨rfl, rfl⟩, rfl⟩
                refine J.app ?_
                refine J.boolT (by simp) ?_
                refine Sq.quiet (i := 3) rfl (Want.none rfl) rfl (ltN rfl) (QP.move rfl rfl).read ?_
                refine Sq.quiet (i := 4) rfl (Want.yes rfl rfl rfl rfl) rfl (ltN rfl) (QP.move rfl rfl).read ?_
                refine Sq.quiet (i := 5) rfl (Want.yes rfl rfl rfl rfl) rfl (ltN rfl) (QP.move rfl rfl).read ?_
                refine Sq.eff (i := 6) rfl (Want.yes rfl rfl rfl rfl) rfl (ltN rfl) (EF.call rfl ce23 rfl (.cons (by repeat (first | exact Pick.head | apply Pick.tail)) (.cons (by repeat (first | exact Pick.head | apply Pick.tail)) Takes.nil)) (fun F' hle hr => same_spec F' hhvg hhvh (by omega) (by omega))) ?_
                rintro _ _ ⟨_, ⟨rfl, rfl⟩, rfl⟩
                refine J.app ?_
                refine J.boolT (by simp) ?_
                refine Sq.quiet (i := 7) rfl (Want.none rfl) rfl (ltN rfl) (QP.pick_t rfl rfl rfl).read ?_
                refine Sq.quiet (i := 8) rfl (Want.none rfl) rfl (ltN rfl) (QP.assign rfl rfl).read ?_
                obtain ⟨L2, hL2⟩ : ∃ L2, L2 = (rtickQ now2 L).1 := ⟨_, rfl⟩
                have hgood2 : ∀ y ∈ L2, GoodQ now2 y := by have := tick_good now2 hnn hgood L.length (Nat.le_refl _); rw [List.take_length] at this; rw [hL2]; exact this
                have hl2 : L2.length ≤ i + 1 := by rw [hL2]; omega
                rw [← hL2] at hord2 hh2
                rw [← hL2]
                refine Sq.nil ?_
                refine hk19 _ _ ?_
                refine Run.seq fun k38 hk38 => ?_
                refine Run.region ?_
                show Sq _ _ _ [0, 1, 2, 3, 4, 5, 6] _ _ _ _
                refine Sq.quiet (i := 0) rfl (Want.none rfl) rfl (ltN rfl) (QP.move rfl rfl).read ?_
                refine Sq.eff (i := 1) rfl (Want.none rfl) rfl (ltN rfl) (EF.call rfl ce24 rfl (.cons (by repeat (first | exact Pick.head | apply Pick.tail)) Takes.nil) (fun F' hle hr => nextT2 F' hord2 (by rw [← hord2.length]; omega))) ?_
                rintro _ _ ⟨_, ⟨n1, k1_, rfl, hn1x, rfl⟩, rfl⟩
                refine J.app ?_
                refine Sq.quiet (i := 2) rfl (Want.none rfl) rfl (ltN rfl) (QP.move rfl rfl).read ?_
                refine Sq.quiet (i := 3) rfl (Want.none rfl) rfl (ltN rfl) (QP.extract rfl rfl rfl).read ?_
                refine Sq.quiet (i := 4) rfl (Want.none rfl) rfl (ltN rfl) (QP.extract rfl rfl rfl).read ?_
                refine Sq.quiet (i := 5) rfl (Want.none rfl) rfl (ltN rfl) (QP.assign rfl rfl).read ?_
                refine Sq.quiet (i := 6) rfl (Want.none rfl) rfl (ltN rfl) (QP.assign rfl rfl).read ?_
                refine Sq.nil ?_
                refine hk38 _ _ ?_
                refine Run.seq fun k39 hk39 => ?_
                refine Run.region ?_
                show Sq _ _ _ [0, 1, 2, 3, 4, 5, 6] _ _ _ _
                refine Sq.quiet (i := 0) rfl (Want.none rfl) rfl (ltN rfl) (QP.move rfl rfl).read ?_
                refine Sq.eff (i := 1) rfl (Want.none rfl) rfl (ltN rfl) (EF.call rfl ce25 rfl (.cons (by repeat (first | exact Pick.head | apply Pick.tail)) (.cons (by repeat (first | exact Pick.head | apply Pick.tail)) Takes.nil)) (fun F' hle hr => rnext_spec F' hh2 (by omega))) ?_
                rintro _ _ ⟨_, ⟨rfl, n2, k2_, rfl, hn2x⟩, rfl⟩
                refine J.app ?_
                refine Sq.quiet (i := 2) rfl (Want.none rfl) rfl (ltN rfl) (QP.move rfl rfl).read ?_
                refine Sq.quiet (i := 3) rfl (Want.none rfl) rfl (ltN rfl) (QP.extract rfl rfl rfl).read ?_
                refine Sq.quiet (i := 4) rfl (Want.none rfl) rfl (ltN rfl) (QP.extract rfl rfl rfl).read ?_
                refine Sq.quiet (i := 5) rfl (Want.none rfl) rfl (ltN rfl) (QP.assign rfl rfl).read ?_
                refine Sq.quiet (i := 6) rfl (Want.none rfl) rfl (ltN rfl) (QP.assign rfl rfl).read ?_
                refine Sq.nil ?_
                refine hk39 _ _ ?_
                refine Run.seq fun k40 hk40 => ?_
                refine Run.regionD (M := [0, 1, 3, 7, 15, 7, 39, 103, 231, 511, 1023, 2047, 4095, 8191, 8191, 32767, 65535, 131071, 262143, 262143, 1048575, 2097151]) (q := 4193775) (r := 256) (by kernel_rfl) ?_
                refine Dw.pure (i := 0) rfl (by kernel_rfl) (Want.none rfl) rfl (ltN rfl) (QP.move rfl rfl) ?_
                refine Dw.pure (i := 1) rfl (by kernel_rfl) (Want.none rfl) rfl (ltN rfl) (QP.not rfl rfl) ?_
                refine Dw.pure (i := 2) rfl (by kernel_rfl) (Want.none rfl) rfl (ltN rfl) (QP.move rfl rfl) ?_
                refine Dw.pure (i := 3) rfl (by kernel_rfl) (Want.yes rfl rfl rfl rfl) rfl (ltN rfl) (QP.move rfl rfl) ?_
                refine Dw.pure (i := 5) rfl (by kernel_rfl) (Want.yes rfl rfl rfl rfl) rfl (ltN rfl) (QP.move rfl rfl) ?_
                refine Dw.pure (i := 6) rfl (by kernel_rfl) (Want.yes rfl rfl rfl rfl) rfl (ltN rfl) (QP.nilCheck rfl rfl) ?_
                refine Dw.pure (i := 7) rfl (by kernel_rfl) (Want.yes rfl rfl rfl rfl) rfl (ltN rfl) (QP.fieldAddr rfl rfl f57_1) ?_
                refine Dw.read (i := 8) rfl (by kernel_rfl) (Want.yes rfl rfl rfl rfl) rfl (ltN rfl) (QR.load1 (v := .slice _ L2.length _) rfl rfl g40 (Ref18Table.sub_l _)) ?_
                refine Dw.eff (i := 4) (by kernel_rfl) (by kernel_rfl) ?_
                refine One.mk (o := _) (l := [8]) rfl (by kernel_rfl) (Want.yes rfl rfl rfl rfl) rfl (ltN rfl) (EF.call rfl ce13 rfl (.cons (by repeat (first | exact Pick.head | apply Pick.tail)) Takes.nil) (fun F' hle hr => listT2 F' hord2 (by rw [← hord2.length]; omega))) (by kernel_rfl) ?_
                rintro v173 _ ⟨_, rfl, rfl⟩
                refine ⟨?_, ?_⟩
                · rw [List.forall_mem_cons]
                  refine ⟨?_, fun _ h => (by cases h)⟩
                  · refine Look.app ?_
                    exact Look.mk rfl rfl rfl (QR.load1 (v := .slice _ L2.length _) rfl rfl g40 (Ref18Table.sub_l _))
                refine ?_
                refine J.app ?_
                refine Dw.slCase (v := v173) (xs := L2) (by repeat (first | exact List.Mem.head _ | apply List.Mem.tail)) (fun a173 c173 hv173 hh173 => ?_)
                subst hv173
                refine Dw.eff (i := 9) (by kernel_rfl) (by kernel_rfl) ?_
                refine One.mk (o := _) (l := []) rfl (by kernel_rfl) (Want.yes rfl rfl rfl rfl) rfl (ltN rfl) (EF.call rfl ce23 rfl (.cons (by repeat (first | exact Pick.head | apply Pick.tail)) (.cons (by repeat (first | exact Pick.head | apply Pick.tail)) Takes.nil)) (fun F' hle hr => same_spec F' hh173 hh2 (by omega) (by omega))) (by kernel_rfl) ?_
                rintro _ _ ⟨_, ⟨rfl, rfl⟩, rfl⟩
                refine ⟨fun _ h => (by cases h), ?_⟩
                refine J.app ?_
                refine J.boolT (by simp) ?_
                refine Dw.pure (i := 10) rfl (by kernel_rfl) (Want.yes rfl rfl rfl rfl) rfl (ltN rfl) (QP.not rfl rfl) ?_
                refine Dw.pure (i := 11) rfl (by kernel_rfl) (Want.none rfl) rfl (ltN rfl) (QP.pick_f rfl rfl rfl) ?_
                refine Dw.pure (i := 12) rfl (by kernel_rfl) (Want.none rfl) rfl (ltN rfl) (QP.move rfl rfl) ?_
                refine Dw.pure (i := 13) rfl (by kernel_rfl) (Want.yes rfl rfl rfl rfl) rfl (ltN rfl) (QP.move rfl rfl) ?_
                refine Dw.pure (i := 14) rfl (by kernel_rfl) (Want.yes rfl rfl rfl rfl) rfl (ltN rfl) (QP.move rfl rfl) ?_
                refine Dw.pure (i := 15) rfl (by kernel_rfl) (Want.yes rfl rfl rfl rfl) rfl (ltN rfl) (QP.neq rfl rfl rfl) ?_
                refine J.decF (by simp [(hn1x.uniq hn2x).1]) ?_
                refine Dw.pure (i := 16) rfl (by kernel_rfl) (Want.none rfl) rfl (ltN rfl) (QP.pick_f rfl rfl rfl) ?_
                refine Dw.pure (i := 17) rfl (by kernel_rfl) (Want.none rfl) rfl (ltN rfl) (QP.move rfl rfl) ?_
                refine Dw.pure (i := 18) rfl (by kernel_rfl) (Want.yes rfl rfl rfl rfl) rfl (ltN rfl) (QP.move rfl rfl) ?_
                refine Dw.pure (i := 19) rfl (by kernel_rfl) (Want.yes rfl rfl rfl rfl) rfl (ltN rfl) (QP.move rfl rfl) ?_
                refine Dw.pure (i := 20) rfl (by kernel_rfl) (Want.yes rfl rfl rfl rfl) rfl (ltN rfl) (QP.neqB rfl rfl rfl Try.underlying4) ?_
                refine J.boolF (by simp [(hn1x.uniq hn2x).2]) ?_
                refine Dw.pure (i := 21) rfl (by kernel_rfl) (Want.none rfl) rfl (ltN rfl) (QP.pick_f rfl rfl rfl) ?_
                refine Dw.nil (by kernel_rfl) ?_
                refine hk40 _ _ ?_
                refine Run.cond_f rfl ?_
                refine Run.skip ?_
                refine hk15 _ _ ?_
                refine Run.region ?_
                show Sq _ _ _ [0, 1, 2] _ _ _ _
                refine Sq.quiet (i := 0) rfl (Want.none rfl) rfl (ltN rfl) (QP.move rfl rfl).read ?_
                refine Sq.quiet (i := 1) rfl (Want.none rfl) rfl (ltN rfl) (QP.add64 rfl rfl rfl (by first | omega | (simp only [List.length_map, List.length_append, List.length_cons, List.length_nil, List.length_take, List.length_drop]; omega)) (by first | omega | (simp only [List.length_map, List.length_append, List.length_cons, List.length_nil, List.length_take, List.length_drop]; omega))).read ?_
                refine Sq.quiet (i := 2) rfl (Want.none rfl) rfl (ltN rfl) (QP.assign rfl rfl).read ?_
                refine Sq.nil ?_
                exact J.envJ (J.keep (.cons (by repeat (first | exact Pick.head | apply Pick.tail)) (.cons (by repeat (first | exact Pick.head | apply Pick.tail)) (.cons (by repeat (first | exact Pick.head | apply Pick.tail)) Takes.nil))) (hl12 (i + 1) (now2) (M2) (L2) (a3) (c3) (⟨by omega, hnn, by omega, hord2, hgood2, hl2, hh2⟩) (by omega))) ⟨rfl, rfl, rfl, rfl, rfl, trivial⟩
              · skip
                refine Sq.quiet (i := 1) rfl (Want.none rfl) rfl (ltN rfl) (QP.assign rfl rfl).read ?_
                refine Sq.nil ?_
                refine hk35 _ _ ?_
                refine Run.cond_f rfl ?_
                refine Run.skip ?_
                refine hk19 _ _ ?_
                refine Run.seq fun k41 hk41 => ?_
                refine Run.region ?_
                show Sq _ _ _ [0, 1, 2, 3, 4, 5, 6] _ _ _ _
                obtain ⟨M2, hM2⟩ : ∃ M2, M2 = M := ⟨_, rfl⟩
                obtain ⟨L2, hL2⟩ : ∃ L2, L2 = L := ⟨_, rfl⟩
                obtain ⟨a3, ha3⟩ : ∃ a3, a3 = al := ⟨_, rfl⟩
                obtain ⟨c3, hc3⟩ : ∃ c3, c3 = cl := ⟨_, rfl⟩
                have hord2 : OrdQ M2 L2 := by rw [hM2, hL2]; exact hord
                have hh2 : SlH a3 c3 L2 := by rw [ha3, hc3, hL2]; exact hh
                rw [← hM2, ← hL2, ← ha3, ← hc3]
                have hgood2 : ∀ y ∈ L2, GoodQ now2 y := fun y hy => hgood y (by rw [← hL2]; exact hy)
                have hl2 : L2.length ≤ i + 1 := by rw [hL2]; omega
                refine Sq.quiet (i := 0) rfl (Want.none rfl) rfl (ltN rfl) (QP.move rfl rfl).read ?_
                refine Sq.eff (i := 1) rfl (Want.none rfl) rfl (ltN rfl) (EF.call rfl ce24 rfl (.cons (by repeat (first | exact Pick.head | apply Pick.tail)) Takes.nil) (fun F' hle hr => nextT2 F' hord2 (by rw [← hord2.length]; omega))) ?_
                rintro _ _ ⟨_, ⟨n1, k1_, rfl, hn1x, rfl⟩, rfl⟩
                refine J.app ?_
                refine Sq.quiet (i := 2) rfl (Want.none rfl) rfl (ltN rfl) (QP.move rfl rfl).read ?_
                refine Sq.quiet (i := 3) rfl (Want.none rfl) rfl (ltN rfl) (QP.extract rfl rfl rfl).read ?_
                refine Sq.quiet (i := 4) rfl (Want.none rfl) rfl (ltN rfl) (QP.extract rfl rfl rfl).read ?_
                refine Sq.quiet (i := 5) rfl (Want.none rfl) rfl (ltN rfl) (QP.assign rfl rfl).read ?_
                refine Sq.quiet (i := 6) rfl (Want.none rfl) rfl (ltN rfl) (QP.assign rfl rfl).read ?_
                refine Sq.nil ?_
                refine hk41 _ _ ?_
                refine Run.seq fun k42 hk42 => ?_
                refine Run.region ?_
                show Sq _ _ _ [0, 1, 2, 3, 4, 5, 6] _ _ _ _
                refine Sq.quiet (i := 0) rfl (Want.none rfl) rfl (ltN rfl) (QP.move rfl rfl).read ?_
                refine Sq.eff (i := 1) rfl (Want.none rfl) rfl (ltN rfl) (EF.call rfl ce25 rfl (.cons (by repeat (first | exact Pick.head | apply Pick.tail)) (.cons (by repeat (first | exact Pick.head | apply Pick.tail)) Takes.nil)) (fun F' hle hr => rnext_spec F' hh2 (by omega))) ?_
                rintro _ _ ⟨_, ⟨rfl, n2, k2_, rfl, hn2x⟩, rfl⟩
                refine J.app ?_
                refine Sq.quiet (i := 2) rfl (Want.none rfl) rfl (ltN rfl) (QP.move rfl rfl).read ?_
                refine Sq.quiet (i := 3) rfl (Want.none rfl) rfl (ltN rfl) (QP.extract rfl rfl rfl).read ?_
                refine Sq.quiet (i := 4) rfl (Want.none rfl) rfl (ltN rfl) (QP.extract rfl rfl rfl).read ?_
                refine Sq.quiet (i := 5) rfl (Want.none rfl) rfl (ltN rfl) (QP.assign rfl rfl).read ?_
                refine Sq.quiet (i := 6) rfl (Want.none rfl) rfl (ltN rfl) (QP.assign rfl rfl).read ?_
                refine Sq.nil ?_
                refine hk42 _ _ ?_
                refine Run.seq fun k43 hk43 => ?_
                refine Run.regionD (M := [0, 1, 3, 7, 15, 7, 39, 103, 231, 511, 1023, 2047, 4095, 8191, 8191, 32767, 65535, 131071, 262143, 262143, 1048575, 2097151]) (q := 4193775) (r := 256) (by kernel_rfl) ?_
                refine Dw.pure (i := 0) rfl (by kernel_rfl) (Want.none rfl) rfl (ltN rfl) (QP.move rfl rfl) ?_
                refine Dw.pure (i := 1) rfl (by kernel_rfl) (Want.none rfl) rfl (ltN rfl) (QP.not rfl rfl) ?_
                refine Dw.pure (i := 2) rfl (by kernel_rfl) (Want.none rfl) rfl (ltN rfl) (QP.move rfl rfl) ?_
                refine Dw.pure (i := 3) rfl (by kernel_rfl) (Want.yes rfl rfl rfl rfl) rfl (ltN rfl) (QP.move rfl rfl) ?_
                refine Dw.pure (i := 5) rfl (by kernel_rfl) (Want.yes rfl rfl rfl rfl) rfl (ltN rfl) (QP.move rfl rfl) ?_
                refine Dw.pure (i := 6) rfl (by kernel_rfl) (Want.yes rfl rfl rfl rfl) rfl (ltN rfl) (QP.nilCheck rfl rfl) ?_
                refine Dw.pure (i := 7) rfl (by kernel_rfl) (Want.yes rfl rfl rfl rfl) rfl (ltN rfl) (QP.fieldAddr rfl rfl f57_1) ?_
                refine Dw.read (i := 8) rfl (by kernel_rfl) (Want.yes rfl rfl rfl rfl) rfl (ltN rfl) (QR.load1 (v := .slice _ L2.length _) rfl rfl g40 (Ref18Table.sub_l _)) ?_
                refine Dw.eff (i := 4) (by kernel_rfl) (by kernel_rfl) ?_
                refine One.mk (o := _) (l := [8]) rfl (by kernel_rfl) (Want.yes rfl rfl rfl rfl) rfl (ltN rfl) (EF.call rfl ce13 rfl (.cons (by repeat (first | exact Pick.head | apply Pick.tail)) Takes.nil) (fun F' hle hr => listT2 F' hord2 (by rw [← hord2.length]; omega))) (by kernel_rfl) ?_
                rintro v173 _ ⟨_, rfl, rfl⟩
                refine ⟨?_, ?_⟩
                · rw [List.forall_mem_cons]
                  refine ⟨?_, fun _ h => (by cases h)⟩
                  · refine Look.app ?_
                    exact Look.mk rfl rfl rfl (QR.load1 (v := .slice _ L2.length _) rfl rfl g40 (Ref18Table.sub_l _))
                refine ?_
                refine J.app ?_
                refine Dw.slCase (v := v173) (xs := L2) (by repeat (first | exact List.Mem.head _ | apply List.Mem.tail)) (fun a173 c173 hv173 hh173 => ?_)
                subst hv173
                refine Dw.eff (i := 9) (by kernel_rfl) (by kernel_rfl) ?_
                refine One.mk (o := _) (l := []) rfl (by kernel_rfl) (Want.yes rfl rfl rfl rfl) rfl (ltN rfl) (EF.call rfl ce23 rfl (.cons (by repeat (first | exact Pick.head | apply Pick.tail)) (.cons (by repeat (first | exact Pick.head | apply Pick.tail)) Takes.nil)) (fun F' hle hr => same_spec F' hh173 hh2 (by omega) (by omega))) (by kernel_rfl) ?_
                rintro _ _ ⟨_, ⟨rfl, rfl⟩, rfl⟩
                refine ⟨fun _ h => (by cases h), ?_⟩
                refine J.app ?_
                refine J.boolT (by simp) ?_
                refine Dw.pure (i := 10) rfl (by kernel_rfl) (Want.yes rfl rfl rfl rfl) rfl (ltN rfl) (QP.not rfl rfl) ?_
                refine Dw.pure (i := 11) rfl (by kernel_rfl) (Want.none rfl) rfl (ltN rfl) (QP.pick_f rfl rfl rfl) ?_
                refine Dw.pure (i := 12) rfl (by kernel_rfl) (Want.none rfl) rfl (ltN rfl) (QP.move rfl rfl) ?_
                refine Dw.pure (i := 13) rfl (by kernel_rfl) (Want.yes rfl rfl rfl rfl) rfl (ltN rfl) (QP.move rfl rfl) ?_
                refine Dw.pure (i := 14) rfl (by kernel_rfl) (Want.yes rfl rfl rfl rfl) rfl (ltN rfl) (QP.move rfl rfl) ?_
                refine Dw.pure (i := 15) rfl (by kernel_rfl) (Want.yes rfl rfl rfl rfl) rfl (ltN rfl) (QP.neq rfl rfl rfl) ?_
                refine J.decF (by simp [(hn1x.uniq hn2x).1]) ?_
                refine Dw.pure (i := 16) rfl (by kernel_rfl) (Want.none rfl) rfl (ltN rfl) (QP.pick_f rfl rfl rfl) ?_
                refine Dw.pure (i := 17) rfl (by kernel_rfl) (Want.none rfl) rfl (ltN rfl) (QP.move rfl rfl) ?_
                refine Dw.pure (i := 18) rfl (by kernel_rfl) (Want.yes rfl rfl rfl rfl) rfl (ltN rfl) (QP.move rfl rfl) ?_
                refine Dw.pure (i := 19) rfl (by kernel_rfl) (Want.yes rfl rfl rfl rfl) rfl (ltN rfl) (QP.move rfl rfl) ?_
                refine Dw.pure (i := 20) rfl (by kernel_rfl) (Want.yes rfl rfl rfl rfl) rfl (ltN rfl) (QP.neqB rfl rfl rfl Try.underlying4) ?_
                refine J.boolF (by simp [(hn1x.uniq hn2x).2]) ?_
                refine Dw.pure (i := 21) rfl (by kernel_rfl) (Want.none rfl) rfl (ltN rfl) (QP.pick_f rfl rfl rfl) ?_
                refine Dw.nil (by kernel_rfl) ?_
                refine hk43 _ _ ?_
                refine Run.cond_f rfl ?_
                refine Run.skip ?_
                refine hk15 _ _ ?_
                refine Run.region ?_
                show Sq _ _ _ [0, 1, 2] _ _ _ _
                refine Sq.quiet (i := 0) rfl (Want.none rfl) rfl (ltN rfl) (QP.move rfl rfl).read ?_
                refine Sq.quiet (i := 1) rfl (Want.none rfl) rfl (ltN rfl) (QP.add64 rfl rfl rfl (by first | omega | (simp only [List.length_map, List.length_append, List.length_cons, List.length_nil, List.length_take, List.length_drop]; omega)) (by first | omega | (simp only [List.length_map, List.length_append, List.length_cons, List.length_nil, List.length_take, List.length_drop]; omega))).read ?_
                refine Sq.quiet (i := 2) rfl (Want.none rfl) rfl (ltN rfl) (QP.assign rfl rfl).read ?_
                refine Sq.nil ?_
                exact J.envJ (J.keep (.cons (by repeat (first | exact Pick.head | apply Pick.tail)) (.cons (by repeat (first | exact Pick.head | apply Pick.tail)) (.cons (by repeat (first | exact Pick.head | apply Pick.tail)) Takes.nil))) (hl12 (i + 1) (now2) (M2) (L2) (a3) (c3) (⟨by omega, hnn, by omega, hord2, hgood2, hl2, hh2⟩) (by omega))) ⟨rfl, rfl, rfl, rfl, rfl, trivial⟩
      · skip
        refine Sq.nil ?_
        refine hk14 _ _ ?_
        refine Run.cond_f rfl ?_
        refine Run.exit rfl ?_
        refine hk10 _ _ ?_
        refine Run.seq fun k44 hk44 => ?_
        refine Run.region ?_
        show Sq _ _ _ [0, 1] _ _ _ _
        refine Sq.eff (i := 0) rfl (Want.none rfl) rfl (ltN rfl) (EF.call rfl ce9 rfl Takes.nil (fun F' hle hr => live_spec F')) ?_
        rintro _ _ ⟨_, ⟨rfl, rfl⟩, rfl⟩
        refine J.app ?_
        refine Sq.quiet (i := 1) rfl (Want.none rfl) rfl (ltN rfl) (QP.assign rfl rfl).read ?_
        refine Sq.nil ?_
        refine hk44 _ _ ?_
        refine Run.ret ?_
        exact J.ends (res_tmp rfl rfl) Takes.nil ⟨rfl, rfl⟩
  · skip
    refine Sq.quiet (i := 2) rfl (Want.none rfl) rfl (ltN rfl) (QP.not rfl rfl).read ?_
    refine Sq.quiet (i := 3) rfl (Want.none rfl) rfl (ltN rfl) (QP.move rfl rfl).read ?_
    refine Sq.skip (i := 4) rfl (Want.no rfl rfl rfl rfl) rfl (ltN rfl) ?_
    refine Sq.skip (i := 5) rfl (Want.no rfl rfl rfl rfl) rfl (ltN rfl) ?_
    refine Sq.quiet (i := 6) rfl (Want.none rfl) rfl (ltN rfl) (QP.pick_t rfl rfl rfl).read ?_
    refine Sq.nil ?_
    refine hk3 _ _ ?_
    refine Run.cond_t rfl ?_
    refine Run.seq fun k45 hk45 => ?_
    refine Run.region ?_
    show Sq _ _ _ [0, 1] _ _ _ _
    refine Sq.eff (i := 0) rfl (Want.none rfl) rfl (ltN rfl) (EF.call rfl ce9 rfl Takes.nil (fun F' hle hr => live_spec F')) ?_
    rintro _ _ ⟨_, ⟨rfl, rfl⟩, rfl⟩
    refine J.app ?_
    refine Sq.quiet (i := 1) rfl (Want.none rfl) rfl (ltN rfl) (QP.assign rfl rfl).read ?_
    refine Sq.nil ?_
    refine hk45 _ _ ?_
    refine Run.ret ?_
    exact J.ends (res_tmp rfl rfl) Takes.nil ⟨rfl, rfl⟩
end Slb
