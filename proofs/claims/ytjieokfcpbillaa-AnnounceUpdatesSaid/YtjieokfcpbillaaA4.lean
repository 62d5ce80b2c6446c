/- A4: a part of the proof that a law of this package holds for every input; no condition. -/
import Derived.Test.YtjieokfcpbillaaA3
import Derived.Test.YtjieokfcpbillaaB33
import Derived.Test.YtjieokfcpbillaaB30
namespace Slb
open Go Go.Proofs
set_option maxRecDepth 20000
theorem keys_gone : ∀ (ks : List Pair) {M : TabB}, ks.Perm (M.map (·.1)) → ks.foldl adel M = [] := by
  intro ks
  induction ks with
  | nil =>
    intro M h
    have := h.length_eq
    simp at this
    exact List.eq_nil_of_length_eq_zero this.symm
  | cons k ks ih =>
    intro M h
    have hk : k ∈ M.map (·.1) := h.subset List.mem_cons_self
    cases hq : alook M k with
    | none =>
      obtain ⟨e, he, hek⟩ := List.mem_map.1 hk
      exact absurd hek (alook_none.1 hq e he)
    | some v =>
      obtain ⟨A, B, rfl, hA⟩ := alook_split hq
      rw [List.foldl_cons, adel_split hA]
      refine ih ?_
      have h2 : (k :: ks).Perm (k :: (A ++ B).map (·.1)) := h.trans (by simp only [List.map_append, List.map_cons]; exact List.perm_middle)
      exact h2.cons_inv
def offP (p : Pair) : Offer := ⟨p, Bs.zero 8, 0, 0⟩
theorem map_take_succ {α β : Type} {L : List α} {i : Nat} {y : α} (f : α → β) (h : L[i]? = some y) : (L.take i).map f ++ [f y] = (L.take (i + 1)).map f := by rw [take_succ_get h, List.map_append]; rfl

theorem withdraw_spec (F : Fr) {b : Nat} {al : Option Addr} {cl bo r : Nat} {x : IfConf} (hf : InB F b al cl bo r x) {M : TabB} (hM : M.length ≤ 1000000) : Spec Try.prog 11 #[fp b, .int .i64 0] [mapE r M] F (fun v S => ∃ ks, KeysOf M ks ∧ S = [mapE r [], slA 51 68 Tlv.enc v (ks.map fun p => backT x (offP p))]) := by
 refine Spec.intro (N := 30) (args := [fp b, .int .i64 0]) Try.func11 rfl rfl (by simp) ?_
 refine Run.seq fun k1 hk1 => ?_
 refine Run.region ?_
 show Sq _ _ _ [0] _ _ _ _
 refine Sq.quiet (i := 0) rfl (Want.none rfl) rfl (ltN rfl) (QP.assign rfl rfl).read ?_
 refine Sq.nil ?_
 refine hk1 _ _ ?_
 refine Run.seq fun k2 hk2 => ?_
 refine Run.seq fun k3 hk3 => ?_
 refine Run.region ?_
 show Sq _ _ _ [0, 1, 2, 3, 4] _ _ _ _
 refine Sq.quiet (i := 0) rfl (Want.none rfl) rfl (ltN rfl) (QP.move rfl rfl).read ?_
 refine Sq.quiet (i := 1) rfl (Want.none rfl) rfl (ltN rfl) (QP.move rfl rfl).read ?_
 refine Sq.eff (i := 2) rfl (Want.none rfl) rfl (ltN rfl) (EF.call rfl ce19 rfl (.cons (by repeat constructor) Takes.nil) (fun F' hle hr => told_spec F' (hf.mono hle) hM)) ?_
 rintro v9 _ ⟨_, ⟨ks, hks, rfl⟩, rfl⟩
 refine J.app ?_
 refine J.slCase (v := v9) (xs := ks) (by repeat constructor) (fun a9 c9 hv9 hh9 => ?_)
 subst hv9
 have hkl := hks.1.length_eq
 rw [List.length_map] at hkl
 refine J.addSl 51 68 Tlv.enc ?_
 obtain ⟨sb, so, rfl, hs0⟩ := hf.sl.get (by simp)
 have h0 : [bo][Int.toNat 0]? = some bo := rfl
 refine Sq.quiet (i := 3) rfl (Want.none rfl) rfl (ltN rfl) (QP.len rfl rfl rfl Try.underlying35).read ?_
 refine Sq.quiet (i := 4) rfl (Want.none rfl) rfl (ltN rfl) (QP.move rfl rfl).read ?_
 refine Sq.nil ?_
 refine hk3 _ _ ?_
 refine Run.block ?_
 refine Run.loop2 (fun (i : Nat) (vo : Value) => i ≤ ks.length) (fun i vo => .cons 0 (fp b) (.cons 1 (.int .i64 0) (.cons 4 (vo) (.cons 9 (.slice a9 ks.length c9) (.cons 10 (.int .i64 ks.length) (.cons 11 (.int .i64 i) (.nil))))))) (fun i vo => [mapE r ((ks.take i).foldl adel M), slA 51 68 Tlv.enc vo ((ks.take i).map fun p => backT x (offP p)), slA 45 34 Pair.enc (.slice a9 ks.length c9) ks]) (fun i vo => ks.length - i) (0) (.slice none 0 0) (Nat.zero_le _) ?_ ?_
 ·exact fun _ j => J.envJ (J.keep (.cons (by repeat constructor) (.cons (by repeat constructor) (.cons (by repeat constructor) Takes.nil))) j) ⟨rfl, rfl, rfl, rfl, rfl, rfl, trivial⟩
 rintro i vo hile kl4 hl4
 refine Run.seq fun k5 hk5 => ?_
 refine Run.region ?_
 show Sq _ _ _ [0] _ _ _ _
 refine Sq.quiet (i := 0) rfl (Want.none rfl) rfl (ltN rfl) (QP.lss rfl rfl rfl).read ?_
 refine J.caseD (fun c12 => ?_) (fun c12 => ?_)
 ·skip
  refine Sq.nil ?_
  refine hk5 _ _ ?_
  refine Run.seq fun k6 hk6 => ?_
  refine Run.cond_t rfl ?_
  refine Run.skip ?_
  refine hk6 _ _ ?_
  refine Run.seq fun k7 hk7 => ?_
  refine Run.block ?_
  refine Run.seq fun k8 hk8 => ?_
  refine Run.region ?_
  show Sq _ _ _ [0, 1, 2, 3] _ _ _ _
  obtain ⟨p, hi⟩ : ∃ p, ks[i]? = some p := ⟨_, List.getElem?_eq_getElem (by omega)⟩
  obtain ⟨b0, o0, rfl⟩ := hh9.get (by omega)
  have htl : (ks.take i).length ≤ 1000000 := by rw [List.length_take]; omega
  have hml : ((ks.take i).map fun p => backT x (offP p)).length = (ks.take i).length := List.length_map _
  refine Sq.quiet (i := 0) rfl (Want.none rfl) rfl (ltN rfl) (QP.indexAddr rfl rfl rfl Try.underlying35 z45 (by first | omega | (simp <;> omega)) (by first | omega | (simp <;> omega))).read ?_
  refine Sq.quiet (i := 1) rfl (Want.none rfl) rfl (ltN rfl) (QR.loadSl rfl rfl g45 Pair.enc_len (SlAt.own Pair.enc_len (by repeat constructor)) hi) ?_
  refine Sq.eff (i := 2) rfl (Want.none rfl) rfl (ltN rfl) (EF.allocA (l := Pair.enc Pair.zero) rfl zero45) ?_
  rintro _ _ ⟨b6, rfl, rfl⟩
  refine Sq.act (i := 3) rfl (Want.none rfl) rfl (EF.storeA rfl rfl rfl z45 (SetL.all (Pair.enc_len _) (Pair.enc_len _)) (Pair.enc_cell _)) ?_
  rintro _ _ rfl
  refine Sq.nil ?_
  refine hk8 _ _ ?_
  refine Run.regionD (M := [0, 0, 2, 6, 14, 0, 62, 126, 0, 256, 1022, 2046, 4095, 8191]) (q := 1023) (r := 400) (by kernel_rfl) ?_
  refine Dw.pure (i := 0) rfl (by kernel_rfl) (Want.none rfl) rfl (ltN rfl) (QP.move rfl rfl) ?_
  refine Dw.pure (i := 1) rfl (by kernel_rfl) (Want.none rfl) rfl (ltN rfl) (QP.move rfl rfl) ?_
  refine Dw.pure (i := 2) rfl (by kernel_rfl) (Want.none rfl) rfl (ltN rfl) (QP.nilCheck rfl rfl) ?_
  refine Dw.pure (i := 3) rfl (by kernel_rfl) (Want.none rfl) rfl (ltN rfl) (QP.fieldAddr rfl rfl f74_0) ?_
  refine Dw.read (i := 4) rfl (by kernel_rfl) (Want.none rfl) rfl (ltN rfl) (QR.load1F rfl rfl g72 hf.tb (AnnounceBook.sub_l _)) ?_
  refine Dw.pure (i := 5) rfl (by kernel_rfl) (Want.none rfl) rfl (ltN rfl) (QP.move rfl rfl) ?_
  refine Dw.pure (i := 6) rfl (by kernel_rfl) (Want.none rfl) rfl (ltN rfl) (QP.indexAddr rfl rfl rfl Try.underlying72 z75 (by first | omega | (simp <;> omega)) (by first | omega | (simp <;> omega))) ?_
  refine Dw.read (i := 7) rfl (by kernel_rfl) (Want.none rfl) rfl (ltN rfl) (QR.loadSl1 (ev := pv) rfl rfl g75 (hs0 _) h0) ?_
  refine Dw.read (i := 8) rfl (by kernel_rfl) (Want.none rfl) rfl (ltN rfl) (QR.load rfl rfl g45 (Pair.enc_sub _)) ?_
  refine Dw.pure (i := 9) rfl (by kernel_rfl) (Want.none rfl) rfl (ltN rfl) (QP.build (l := Offer.enc ⟨(p), (Bs.zero 8), 0, 0⟩) rfl st60 rfl (by exact ⟨(congrArg some (Pair.enc_len _).symm), trivial⟩) rfl) ?_
  refine Dw.eff (i := 10) (by kernel_rfl) (by kernel_rfl) ?_
  refine One.mk (o := _) (l := []) rfl (by kernel_rfl) (Want.none rfl) rfl (ltN rfl) (EF.call rfl ce23 rfl (.cons (by repeat constructor) Takes.nil) (fun F' hle hr => back_spec F' (hf.mono hle) (M := ((ks.take i).foldl adel M)) (offP p))) (by kernel_rfl) ?_
  rintro _ _ ⟨_, ⟨rfl, rfl⟩, rfl⟩
  refine ⟨fun _ h => (by cases h), ?_⟩
  refine J.app ?_
  refine Dw.eff (i := 11) (by kernel_rfl) (by kernel_rfl) ?_
  refine One.mk (o := _) (l := []) rfl (by kernel_rfl) (Want.none rfl) rfl (ltN rfl) (EF.buildSlice1 rfl Try.underlying37 z51 zero51 (by simp [Value.cells, Tlv.enc_len]) (by decide) rfl rfl (Tlv.enc_len _) (by decide)) (by kernel_rfl) ?_
  rintro _ _ ⟨b26, rfl, rfl⟩
  refine ⟨fun _ h => (by cases h), ?_⟩
  refine Dw.eff (i := 12) (by kernel_rfl) (by kernel_rfl) ?_
  refine One.mk (o := _) (l := []) rfl (by kernel_rfl) (Want.none rfl) rfl (ltN rfl) (EF.append1 (xs := ((ks.take i).map fun p => backT x (offP p))) (s := (backT x (offP p))) el51 Tlv.enc_len Tlv.enc_cell rfl rfl rfl Try.underlying37 Try.underlying37 rfl rfl (by repeat constructor) (by repeat constructor) (by first | omega | (simp <;> omega))) (by kernel_rfl) ?_
  rintro sl27 _ rfl
  refine ⟨fun _ h => (by cases h), ?_⟩
  refine Dw.eff (i := 13) (by kernel_rfl) (by kernel_rfl) ?_
  refine One.mk (o := _) (l := []) rfl (by kernel_rfl) (Want.none rfl) rfl (ltN rfl) ((QP.assign rfl rfl).eff) (by kernel_rfl) ?_
  rintro sl27 _ ⟨rfl, rfl⟩
  refine ⟨fun _ h => (by cases h), ?_⟩
  refine Dw.nil (by kernel_rfl) ?_
  refine hk7 _ _ ?_
  refine Run.region ?_
  show Sq _ _ _ [0, 1] _ _ _ _
  refine Sq.quiet (i := 0) rfl (Want.none rfl) rfl (ltN rfl) (QP.add64 rfl rfl rfl (by first | omega | (simp <;> omega)) (by first | omega | (simp <;> omega))).read ?_
  refine Sq.quiet (i := 1) rfl (Want.none rfl) rfl (ltN rfl) (QP.move rfl rfl).read ?_
  refine Sq.nil ?_
  refine J.slEq (v := sl27) (by repeat constructor) (map_take_succ (fun p => backT x (offP p)) hi) ?_
  refine J.mapEq (M := adel ((ks.take i).foldl adel M) (offP p).pair) (by repeat constructor) (show adel ((ks.take i).foldl adel M) p = (ks.take (i + 1)).foldl adel M by rw [take_succ_get hi, List.foldl_append]; rfl) ?_
  exact J.envJ (J.keep (.cons (by repeat constructor) (.cons (by repeat constructor) (.cons (by repeat constructor) Takes.nil))) (hl4 (i + 1) (sl27) (by omega) (by omega))) ⟨rfl, rfl, rfl, rfl, rfl, rfl, trivial⟩
 ·skip
  refine Sq.nil ?_
  refine hk5 _ _ ?_
  refine Run.seq fun k9 hk9 => ?_
  refine Run.cond_f rfl ?_
  refine Run.exit rfl ?_
  refine hk2 _ _ ?_
  refine Run.seq fun k10 hk10 => ?_
  refine Run.region ?_
  show Sq _ _ _ [0, 1] _ _ _ _
  have hty : ks.take i = ks := List.take_of_length_le (by omega)
  rw [hty, keys_gone ks hks.1]
  refine Sq.quiet (i := 0) rfl (Want.none rfl) rfl (ltN rfl) (QP.move rfl rfl).read ?_
  refine Sq.quiet (i := 1) rfl (Want.none rfl) rfl (ltN rfl) (QP.assign rfl rfl).read ?_
  refine Sq.nil ?_
  refine hk10 _ _ ?_
  refine Run.ret ?_
  exact J.ends (res_tmp rfl rfl) (.cons (by repeat constructor) (.cons (by repeat constructor) Takes.nil)) ⟨ks, hks, rfl⟩

theorem withdraw_nil (F : Fr) (i : Int) : Spec Try.prog 11 #[.pointer none, .int .i64 i] [] F (fun v S => v = .slice none 0 0 ∧ S = []) := by
 refine Spec.intro (N := 30) (args := [.pointer none, .int .i64 i]) Try.func11 rfl rfl (by simp) ?_
 refine Run.seq fun k1 hk1 => ?_
 refine Run.region ?_
 show Sq _ _ _ [0] _ _ _ _
 refine Sq.quiet (i := 0) rfl (Want.none rfl) rfl (ltN rfl) (QP.assign rfl rfl).read ?_
 refine Sq.nil ?_
 refine hk1 _ _ ?_
 refine Run.seq fun k2 hk2 => ?_
 refine Run.seq fun k3 hk3 => ?_
 refine Run.region ?_
 show Sq _ _ _ [0, 1, 2, 3, 4] _ _ _ _
 refine Sq.quiet (i := 0) rfl (Want.none rfl) rfl (ltN rfl) (QP.move rfl rfl).read ?_
 refine Sq.quiet (i := 1) rfl (Want.none rfl) rfl (ltN rfl) (QP.move rfl rfl).read ?_
 refine Sq.eff (i := 2) rfl (Want.none rfl) rfl (ltN rfl) (EF.call rfl ce19 rfl Takes.nil (fun F' hle hr => told_nil F' _)) ?_
 rintro _ _ ⟨_, ⟨rfl, rfl⟩, rfl⟩
 refine J.app ?_
 refine Sq.quiet (i := 3) rfl (Want.none rfl) rfl (ltN rfl) (QP.len rfl rfl rfl Try.underlying35).read ?_
 refine Sq.quiet (i := 4) rfl (Want.none rfl) rfl (ltN rfl) (QP.move rfl rfl).read ?_
 refine Sq.nil ?_
 refine hk3 _ _ ?_
 refine Run.block ?_
 refine Run.loop1 (fun (u : Unit) => True) (fun u => .cons 4 (.slice none 0 0) (.cons 9 (.slice none 0 0) (.cons 10 (.int .i64 0) (.cons 11 (.int .i64 0) (.nil))))) (fun u => []) (fun u => 0) (()) (trivial) ?_ ?_
 ·exact fun _ j => J.envJ (J.keep Takes.nil j) ⟨rfl, rfl, rfl, rfl, trivial⟩
 rintro u _ kl4 hl4
 refine Run.seq fun k5 hk5 => ?_
 refine Run.region ?_
 show Sq _ _ _ [0] _ _ _ _
 refine Sq.quiet (i := 0) rfl (Want.none rfl) rfl (ltN rfl) (QP.lss rfl rfl rfl).read ?_
 refine Sq.nil ?_
 refine hk5 _ _ ?_
 refine Run.seq fun k6 hk6 => ?_
 refine Run.cond_f rfl ?_
 refine Run.exit rfl ?_
 refine hk2 _ _ ?_
 refine Run.seq fun k7 hk7 => ?_
 refine Run.region ?_
 show Sq _ _ _ [0, 1] _ _ _ _
 refine Sq.quiet (i := 0) rfl (Want.none rfl) rfl (ltN rfl) (QP.move rfl rfl).read ?_
 refine Sq.quiet (i := 1) rfl (Want.none rfl) rfl (ltN rfl) (QP.assign rfl rfl).read ?_
 refine Sq.nil ?_
 refine hk7 _ _ ?_
 refine Run.ret ?_
 exact J.ends (res_tmp rfl rfl) Takes.nil ⟨rfl, rfl⟩

theorem answer_nil (F : Fr) (i : Int) (o : Offer) : Spec Try.prog 17 #[.pointer none, .int .i64 i, .agg (Offer.enc o).toArray] [] F (fun v S => v = .tuple #[.agg (Tlv.enc Tlv.zero).toArray, .bool false] ∧ S = []) := by
 refine Spec.intro (N := 36) (args := [.pointer none, .int .i64 i, .agg (Offer.enc o).toArray]) Try.func17 rfl rfl (by simp) ?_
 refine Run.seq fun k1 hk1 => ?_
 refine Run.region ?_
 show Sq _ _ _ [0, 1, 2] _ _ _ _
 refine Sq.eff (i := 0) rfl (Want.none rfl) rfl (ltN rfl) (EF.boxA rfl rfl) ?_
 rintro _ _ ⟨b5, rfl, rfl⟩
 refine Sq.eff (i := 1) rfl (Want.none rfl) rfl (ltN rfl) (EF.allocA (l := Tlv.enc Tlv.zero) rfl zero51) ?_
 rintro _ _ ⟨b6, rfl, rfl⟩
 refine Sq.quiet (i := 2) rfl (Want.none rfl) rfl (ltN rfl) (QP.assign rfl rfl).read ?_
 refine Sq.nil ?_
 refine hk1 _ _ ?_
 refine Run.seq fun k2 hk2 => ?_
 refine Run.region ?_
 show Sq _ _ _ [0, 1, 2, 3] _ _ _ _
 refine Sq.quiet (i := 0) rfl (Want.none rfl) rfl (ltN rfl) (QP.move rfl rfl).read ?_
 refine Sq.quiet (i := 1) rfl (Want.none rfl) rfl (ltN rfl) (QP.move rfl rfl).read ?_
 refine Sq.eff (i := 2) rfl (Want.none rfl) rfl (ltN rfl) (EF.call rfl ce22 rfl Takes.nil (fun F' hle hr => at_nil F' _)) ?_
 rintro _ _ ⟨_, ⟨rfl, rfl⟩, rfl⟩
 refine J.app ?_
 refine Sq.quiet (i := 3) rfl (Want.none rfl) rfl (ltN rfl) (QP.assign rfl rfl).read ?_
 refine Sq.nil ?_
 refine hk2 _ _ ?_
 refine Run.seq fun k3 hk3 => ?_
 refine Run.seq fun k4 hk4 => ?_
 refine Run.region ?_
 show Sq _ _ _ [0, 1, 2, 3, 4, 5, 6, 7] _ _ _ _
 refine Sq.quiet (i := 0) rfl (Want.none rfl) rfl (ltN rfl) (QP.move rfl rfl).read ?_
 refine Sq.quiet (i := 1) rfl (Want.none rfl) rfl (ltN rfl) (QP.ptr_eq_nil rfl rfl rfl Try.underlying75).read ?_
 refine Sq.quiet (i := 2) rfl (Want.none rfl) rfl (ltN rfl) (QP.move rfl rfl).read ?_
 refine Sq.skip (i := 3) rfl (Want.no rfl rfl rfl rfl) rfl (ltN rfl) ?_
 refine Sq.skip (i := 4) rfl (Want.no rfl rfl rfl rfl) rfl (ltN rfl) ?_
 refine Sq.skip (i := 5) rfl (Want.no rfl rfl rfl rfl) rfl (ltN rfl) ?_
 refine Sq.skip (i := 6) rfl (Want.no rfl rfl rfl rfl) rfl (ltN rfl) ?_
 refine Sq.quiet (i := 7) rfl (Want.none rfl) rfl (ltN rfl) (QP.pick_t rfl rfl rfl).read ?_
 refine Sq.nil ?_
 refine hk4 _ _ ?_
 refine Run.cond_t rfl ?_
 refine Run.seq fun k5 hk5 => ?_
 refine Run.region ?_
 show Sq _ _ _ [0, 1, 2] _ _ _ _
 refine Sq.quiet (i := 0) rfl (Want.none rfl) rfl (ltN rfl) (QP.build (l := Tlv.enc Tlv.zero) rfl st51 rfl (by exact trivial) rfl).read ?_
 refine Sq.act (i := 1) rfl (Want.none rfl) rfl (EF.storeA rfl rfl rfl z51 (SetL.all (Tlv.enc_len _) (Tlv.enc_len _)) (Tlv.enc_cell _)) ?_
 rintro _ _ rfl
 refine Sq.quiet (i := 2) rfl (Want.none rfl) rfl (ltN rfl) (QP.assign rfl rfl).read ?_
 refine Sq.nil ?_
 refine hk5 _ _ ?_
 refine Run.ret ?_
 exact J.ends (res_cell2 rfl rfl g51 (Tlv.enc_sub _) rfl) Takes.nil ⟨rfl, rfl⟩

theorem forget_nil (F : Fr) {a : Option Addr} {c : Nat} {is : List Int} (ha : ArgSl F a 1 (fun n => [Value.int .i64 n]) is) (hl : is.length ≤ 1000000) : Spec Try.prog 18 #[.pointer none, .slice a is.length c] [] F (fun v S => v = .int .i64 0 ∧ S = []) := by
 refine Spec.intro (N := 21) (args := [.pointer none, .slice a is.length c]) Try.func18 rfl rfl (by simp) ?_
 refine Run.seq fun k1 hk1 => ?_
 refine Run.region ?_
 show Sq _ _ _ [0] _ _ _ _
 refine Sq.quiet (i := 0) rfl (Want.none rfl) rfl (ltN rfl) (QP.assign rfl rfl).read ?_
 refine Sq.nil ?_
 refine hk1 _ _ ?_
 refine Run.seq fun k2 hk2 => ?_
 refine Run.seq fun k3 hk3 => ?_
 refine Run.region ?_
 show Sq _ _ _ [0, 1, 2] _ _ _ _
 refine Sq.quiet (i := 0) rfl (Want.none rfl) rfl (ltN rfl) (QP.move rfl rfl).read ?_
 refine Sq.quiet (i := 1) rfl (Want.none rfl) rfl (ltN rfl) (QP.len rfl rfl rfl Try.underlying92).read ?_
 refine Sq.quiet (i := 2) rfl (Want.none rfl) rfl (ltN rfl) (QP.move rfl rfl).read ?_
 refine Sq.nil ?_
 refine hk3 _ _ ?_
 refine Run.block ?_
 refine Run.loop1 (fun (i : Nat) => i ≤ is.length) (fun i => .cons 0 (.pointer none) (.cons 4 (.int .i64 0) (.cons 7 (.slice a is.length c) (.cons 8 (.int .i64 is.length) (.cons 9 (.int .i64 i) (.nil)))))) (fun i => []) (fun i => is.length - i) (0) (Nat.zero_le _) ?_ ?_
 ·exact fun _ j => J.envJ (J.keep Takes.nil j) ⟨rfl, rfl, rfl, rfl, rfl, trivial⟩
 rintro i hile kl4 hl4
 refine Run.seq fun k5 hk5 => ?_
 refine Run.region ?_
 show Sq _ _ _ [0] _ _ _ _
 refine Sq.quiet (i := 0) rfl (Want.none rfl) rfl (ltN rfl) (QP.lss rfl rfl rfl).read ?_
 refine J.caseD (fun c10 => ?_) (fun c10 => ?_)
 ·skip
  refine Sq.nil ?_
  refine hk5 _ _ ?_
  refine Run.seq fun k6 hk6 => ?_
  refine Run.cond_t rfl ?_
  refine Run.skip ?_
  refine hk6 _ _ ?_
  refine Run.seq fun k7 hk7 => ?_
  refine Run.block ?_
  refine Run.seq fun k8 hk8 => ?_
  refine Run.region ?_
  show Sq _ _ _ [0, 1, 2] _ _ _ _
  obtain ⟨n, hi⟩ : ∃ n, is[i]? = some n := ⟨_, List.getElem?_eq_getElem (by omega)⟩
  obtain ⟨b0, o0, rfl, hs0⟩ := ha.get (by omega)
  refine Sq.quiet (i := 0) rfl (Want.none rfl) rfl (ltN rfl) (QP.indexAddr rfl rfl rfl Try.underlying92 z3 (by first | omega | (simp <;> omega)) (by first | omega | (simp <;> omega))).read ?_
  refine Sq.quiet (i := 1) rfl (Want.none rfl) rfl (ltN rfl) (QR.loadSl1 (ev := .int .i64) rfl rfl g3 (hs0 _) hi) ?_
  refine Sq.quiet (i := 2) rfl (Want.none rfl) rfl (ltN rfl) (QP.assign rfl rfl).read ?_
  refine Sq.nil ?_
  refine hk8 _ _ ?_
  refine Run.region ?_
  show Sq _ _ _ [0, 1, 2, 3, 4, 5, 6] _ _ _ _
  refine Sq.quiet (i := 0) rfl (Want.none rfl) rfl (ltN rfl) (QP.move rfl rfl).read ?_
  refine Sq.quiet (i := 1) rfl (Want.none rfl) rfl (ltN rfl) (QP.move rfl rfl).read ?_
  refine Sq.quiet (i := 2) rfl (Want.none rfl) rfl (ltN rfl) (QP.move rfl rfl).read ?_
  refine Sq.eff (i := 3) rfl (Want.none rfl) rfl (ltN rfl) (EF.call rfl ce11 rfl Takes.nil (fun F' hle hr => withdraw_nil F' _)) ?_
  rintro _ _ ⟨_, ⟨rfl, rfl⟩, rfl⟩
  refine J.app ?_
  refine Sq.quiet (i := 4) rfl (Want.none rfl) rfl (ltN rfl) (QP.len rfl rfl rfl Try.underlying37).read ?_
  refine Sq.quiet (i := 5) rfl (Want.none rfl) rfl (ltN rfl) (QP.add64 rfl rfl rfl (by first | omega | (simp <;> omega)) (by first | omega | (simp <;> omega))).read ?_
  refine Sq.quiet (i := 6) rfl (Want.none rfl) rfl (ltN rfl) (QP.assign rfl rfl).read ?_
  refine Sq.nil ?_
  refine hk7 _ _ ?_
  refine Run.region ?_
  show Sq _ _ _ [0, 1] _ _ _ _
  refine Sq.quiet (i := 0) rfl (Want.none rfl) rfl (ltN rfl) (QP.add64 rfl rfl rfl (by first | omega | (simp <;> omega)) (by first | omega | (simp <;> omega))).read ?_
  refine Sq.quiet (i := 1) rfl (Want.none rfl) rfl (ltN rfl) (QP.move rfl rfl).read ?_
  refine Sq.nil ?_
  exact J.envJ (J.keep Takes.nil (hl4 (i + 1) (by omega) (by omega))) ⟨rfl, rfl, rfl, rfl, rfl, trivial⟩
 ·skip
  refine Sq.nil ?_
  refine hk5 _ _ ?_
  refine Run.seq fun k9 hk9 => ?_
  refine Run.cond_f rfl ?_
  refine Run.exit rfl ?_
  refine hk2 _ _ ?_
  refine Run.seq fun k10 hk10 => ?_
  refine Run.region ?_
  show Sq _ _ _ [0, 1] _ _ _ _
  refine Sq.quiet (i := 0) rfl (Want.none rfl) rfl (ltN rfl) (QP.move rfl rfl).read ?_
  refine Sq.quiet (i := 1) rfl (Want.none rfl) rfl (ltN rfl) (QP.assign rfl rfl).read ?_
  refine Sq.nil ?_
  refine hk10 _ _ ?_
  refine Run.ret ?_
  exact J.ends (res_tmp rfl rfl) Takes.nil ⟨rfl, rfl⟩

def BkL (b : Nat) (x : IfConf) (M : TabB) (z : Option Addr × Nat × Nat × Nat) : List HProp := [blk b (AnnounceBook.enc ⟨⟨z.1, 1, z.2.1⟩⟩) 74, slA 75 1 (fun p => [pv p]) (.slice z.1 1 z.2.1) [z.2.2.1], blk z.2.2.1 (AnnounceOne.enc ⟨x, some z.2.2.2⟩) 78, mapE z.2.2.2 M]
/-- A Book of one interface, whole. -/
def BkA (b : Nat) (x : IfConf) (M : TabB) : HProp := ex fun z : Option Addr × Nat × Nat × Nat => stars (BkL b x M z)
theorem bk_open {b : Nat} {x : IfConf} {M : TabB} (p : PH) (h : BkA b x M p) : ∃ z, stars (BkL b x M z) p := h
theorem bk_mk {b : Nat} {x : IfConf} {M : TabB} {al : Option Addr} {cl bo r : Nat} (p : PH) (h : stars [blk b (AnnounceBook.enc ⟨⟨al, 1, cl⟩⟩) 74, slA 75 1 (fun p => [pv p]) (.slice al 1 cl) [bo], blk bo (AnnounceOne.enc ⟨x, some r⟩) 78, mapE r M] p) : BkA b x M p := ⟨(al, cl, bo, r), h⟩
theorem Spec.book {f : FuncId} {args : Array Value} {F : Fr} {b : Nat} {x : IfConf} {M : TabB} {R1 : Value → TabB → List HProp → Prop} {R : Value → List HProp → Prop}
    (h : ∀ (F' : Fr) (al : Option Addr) (cl bo r : Nat), PH.le F.h F'.h → InB F' b al cl bo r x → Spec Try.prog f args [mapE r M] F' (fun v S => ∃ M' T, R1 v M' T ∧ S = mapE r M' :: T)) (hR : ∀ v M' T, R1 v M' T → R v (BkA b x M' :: T)) : Spec Try.prog f args [BkA b x M] F R := by
  refine Spec.open bk_open fun ⟨al, cl, bo, r⟩ => ?_
  have hp : (BkL b x M (al, cl, bo, r)).Perm (slA 75 1 (fun p => [pv p]) (.slice al 1 cl) [bo] :: ([mapE r M] ++ [blk b (AnnounceBook.enc ⟨⟨al, 1, cl⟩⟩) 74, blk bo (AnnounceOne.enc ⟨x, some r⟩) 78])) := by
    unfold BkL
    refine (List.Perm.swap _ _ _).trans (List.Perm.cons _ ?_)
    exact (List.perm_append_comm (l₁ := [blk b (AnnounceBook.enc ⟨⟨al, 1, cl⟩⟩) 74, blk bo (AnnounceOne.enc ⟨x, some r⟩) 78]) (l₂ := [mapE r M]))
  refine Spec.perm hp (Spec.post (Spec.lendSl (R := fun v S' => ∃ S1, (∃ M' T, R1 v M' T ∧ S1 = mapE r M' :: T) ∧ S' = S1 ++ [blk b (AnnounceBook.enc ⟨⟨al, 1, cl⟩⟩) 74, blk bo (AnnounceOne.enc ⟨x, some r⟩) 78]) (xs := [bo]) (fun _ => rfl) (fun F1 hle1 ha => Spec.lend fun F2 hle2 hr => h F2 al cl bo r (fun p q hq => hle2 _ _ (hle1 _ _ hq)) ⟨hr _ _ List.mem_cons_self, ha.mono hle2, hr _ _ (List.mem_cons_of_mem _ List.mem_cons_self)⟩)) ?_)
  rintro v S1 w ⟨S2, ⟨S3, ⟨M', T, h1, rfl⟩, rfl⟩, rfl⟩ s
  refine ⟨_, hR v M' T h1, Sat.pack (m := [blk b (AnnounceBook.enc ⟨⟨al, 1, cl⟩⟩) 74, slA 75 1 (fun p => [pv p]) (.slice al 1 cl) [bo], blk bo (AnnounceOne.enc ⟨x, some r⟩) 78, mapE r M']) (r := T) (s.perm ?_) bk_mk⟩
  simp only [List.cons_append, List.nil_append]
  have e1 : (mapE r M' :: (T ++ [blk b (AnnounceBook.enc ⟨⟨al, 1, cl⟩⟩) 74, blk bo (AnnounceOne.enc ⟨x, some r⟩) 78])).Perm ([blk b (AnnounceBook.enc ⟨⟨al, 1, cl⟩⟩) 74, blk bo (AnnounceOne.enc ⟨x, some r⟩) 78] ++ (mapE r M' :: T)) := (List.perm_append_comm (l₁ := mapE r M' :: T) (l₂ := [blk b (AnnounceBook.enc ⟨⟨al, 1, cl⟩⟩) 74, blk bo (AnnounceOne.enc ⟨x, some r⟩) 78]))
  exact (List.Perm.cons _ e1).trans (List.Perm.swap _ _ _)
theorem tellB (F : Fr) {b : Nat} {x : IfConf} {M : TabB} {ao : Option Addr} {co : Nat} {os : List Offer} (ha : ArgSl F ao 44 Offer.enc os) (hl : os.length ≤ 100000) : Spec Try.prog 10 #[fp b, .int .i64 0, .slice ao os.length co] [BkA b x M] F (fun v S => S = [BkA b x (os.foldl (tstep x) (M, [])).1, slA 51 68 Tlv.enc v (os.foldl (tstep x) (M, [])).2]) :=
  Spec.book (R1 := fun v M' T => M' = (os.foldl (tstep x) (M, [])).1 ∧ T = [slA 51 68 Tlv.enc v (os.foldl (tstep x) (M, [])).2]) (fun F' al cl bo r hle hf => (tell_spec F' hf (ha.mono hle) hl).mono fun v S h => ⟨_, _, ⟨rfl, rfl⟩, h⟩) fun v M' T ⟨h1, h2⟩ => by rw [h1, h2]
theorem withdrawB (F : Fr) {b : Nat} {x : IfConf} {M : TabB} (hM : M.length ≤ 1000000) : Spec Try.prog 11 #[fp b, .int .i64 0] [BkA b x M] F (fun v S => ∃ ks, KeysOf M ks ∧ S = [BkA b x [], slA 51 68 Tlv.enc v (ks.map fun p => backT x (offP p))]) :=
  Spec.book (R1 := fun v M' T => M' = [] ∧ ∃ ks, KeysOf M ks ∧ T = [slA 51 68 Tlv.enc v (ks.map fun p => backT x (offP p))]) (fun F' al cl bo r hle hf => (withdraw_spec F' hf hM).mono fun v S ⟨ks, h1, h2⟩ => ⟨_, _, ⟨rfl, ks, h1, rfl⟩, h2⟩) fun v M' T ⟨h1, ks, h2, h3⟩ => ⟨ks, h2, by rw [h1, h3]⟩
theorem toldB (F : Fr) {b : Nat} {x : IfConf} {M : TabB} (hM : M.length ≤ 1000000) : Spec Try.prog 19 #[fp b, .int .i64 0] [BkA b x M] F (fun v S => ∃ ks, KeysOf M ks ∧ S = [BkA b x M, slA 45 34 Pair.enc v ks]) :=
  Spec.book (R1 := fun v M' T => M' = M ∧ ∃ ks, KeysOf M ks ∧ T = [slA 45 34 Pair.enc v ks]) (fun F' al cl bo r hle hf => (told_spec F' hf hM).mono fun v S ⟨ks, h1, h2⟩ => ⟨_, _, ⟨rfl, ks, h1, rfl⟩, h2⟩) fun v M' T ⟨h1, ks, h2, h3⟩ => ⟨ks, h2, by rw [h1, h3]⟩
theorem canBk (F : Fr) {b : Nat} {x : IfConf} {M : TabB} (p : Pair) : Spec Try.prog 16 #[fp b, .int .i64 0, .agg (Pair.enc p).toArray] [BkA b x M] F (fun v S => v = .bool (canB x p) ∧ S = [BkA b x M]) :=
  Spec.book (R1 := fun v M' T => v = .bool (canB x p) ∧ M' = M ∧ T = []) (fun F' al cl bo r hle hf => Spec.post (Spec.lend (m := []) (r := [mapE r M]) fun F2 hle2 _ => can_spec F2 (hf.mono hle2) p) fun v S1 w ⟨S2, ⟨h1, h2⟩, h3⟩ s => ⟨_, ⟨M, [], ⟨h1, rfl, rfl⟩, rfl⟩, by subst h2; subst h3; exact s⟩) fun v M' T ⟨h1, h2, h3⟩ => ⟨h1, by rw [h2, h3]⟩

/-- The Book on its way. -/
def BkN (b : Nat) (x : IfConf) : Nat → HProp
  | 0 => blk b (AnnounceBook.enc AnnounceBook.zero) 74
  | _ + 1 => BkA b x []

theorem new_spec (F : Fr) {ac : Option Addr} {cc : Nat} {x : IfConf} (ha : ArgSl F ac 43 IfConf.enc [x]) : Spec Try.prog 9 #[.slice ac 1 cc] [] F (fun v S => ∃ b, v = fp b ∧ S = [BkA b x []]) := by
 refine Spec.intro (N := 29) (args := [.slice ac 1 cc]) Try.func9 rfl rfl (by simp) ?_
 refine Run.seq fun k1 hk1 => ?_
 refine Run.region ?_
 show Sq _ _ _ [0] _ _ _ _
 refine Sq.quiet (i := 0) rfl (Want.none rfl) rfl (ltN rfl) (QP.assign rfl rfl).read ?_
 refine Sq.nil ?_
 refine hk1 _ _ ?_
 refine Run.seq fun k2 hk2 => ?_
 refine Run.region ?_
 show Sq _ _ _ [0, 1, 2] _ _ _ _
 refine Sq.quiet (i := 0) rfl (Want.none rfl) rfl (ltN rfl) (QP.build (l := AnnounceBook.enc AnnounceBook.zero) rfl st74 rfl (by exact trivial) rfl).read ?_
 refine Sq.eff (i := 1) rfl (Want.none rfl) rfl (ltN rfl) (EF.boxA rfl rfl) ?_
 rintro _ _ ⟨b7, rfl, rfl⟩
 refine Sq.quiet (i := 2) rfl (Want.none rfl) rfl (ltN rfl) (QP.assign rfl rfl).read ?_
 refine Sq.nil ?_
 refine hk2 _ _ ?_
 refine Run.seq fun k3 hk3 => ?_
 refine Run.seq fun k4 hk4 => ?_
 refine Run.region ?_
 show Sq _ _ _ [0, 1, 2] _ _ _ _
 rw [show blk b7 (AnnounceBook.enc AnnounceBook.zero) 74 = BkN b7 x 0 from rfl]
 refine Sq.quiet (i := 0) rfl (Want.none rfl) rfl (ltN rfl) (QP.move rfl rfl).read ?_
 refine Sq.quiet (i := 1) rfl (Want.none rfl) rfl (ltN rfl) (QP.len rfl rfl rfl Try.underlying30).read ?_
 refine Sq.quiet (i := 2) rfl (Want.none rfl) rfl (ltN rfl) (QP.move rfl rfl).read ?_
 refine Sq.nil ?_
 refine hk4 _ _ ?_
 refine Run.block ?_
 refine Run.loop1 (fun (i : Nat) => i ≤ 1) (fun i => .cons 3 (fp b7) (.cons 8 (.slice ac 1 cc) (.cons 9 (.int .i64 1) (.cons 10 (.int .i64 i) (.nil))))) (fun i => [BkN b7 x i]) (fun i => 1 - i) (0) (Nat.zero_le _) ?_ ?_
 ·exact fun _ j => J.envJ (J.keep (.cons (by repeat constructor) Takes.nil) j) ⟨rfl, rfl, rfl, rfl, trivial⟩
 rintro i hile kl5 hl5
 refine Run.seq fun k6 hk6 => ?_
 refine Run.region ?_
 show Sq _ _ _ [0] _ _ _ _
 refine Sq.quiet (i := 0) rfl (Want.none rfl) rfl (ltN rfl) (QP.lss rfl rfl rfl).read ?_
 refine J.caseD (fun c11 => ?_) (fun c11 => ?_)
 ·skip
  refine Sq.nil ?_
  refine hk6 _ _ ?_
  refine Run.seq fun k7 hk7 => ?_
  refine Run.cond_t rfl ?_
  refine Run.skip ?_
  refine hk7 _ _ ?_
  refine Run.seq fun k8 hk8 => ?_
  refine Run.block ?_
  refine Run.seq fun k9 hk9 => ?_
  refine Run.region ?_
  show Sq _ _ _ [0, 1, 2, 3] _ _ _ _
  obtain rfl : i = 0 := by omega
  rw [show BkN b7 x 0 = blk b7 (AnnounceBook.enc AnnounceBook.zero) 74 from rfl]
  obtain ⟨b0, o0, rfl, hs1⟩ := ha.get (by simp)
  have hi : [x][0]? = some x := rfl
  refine J.addSl 75 1 (fun p => [pv p]) ?_
  refine Sq.quiet (i := 0) rfl (Want.none rfl) rfl (ltN rfl) (QP.indexAddr rfl rfl rfl Try.underlying30 z27 (by first | omega | (simp <;> omega)) (by first | omega | (simp <;> omega))).read ?_
  refine Sq.quiet (i := 1) rfl (Want.none rfl) rfl (ltN rfl) (QR.loadSl rfl rfl g27 IfConf.enc_len (hs1 _) hi) ?_
  refine Sq.eff (i := 2) rfl (Want.none rfl) rfl (ltN rfl) (EF.allocA (l := IfConf.enc IfConf.zero) rfl zero27) ?_
  rintro _ _ ⟨b5, rfl, rfl⟩
  refine Sq.act (i := 3) rfl (Want.none rfl) rfl (EF.storeA rfl rfl rfl z27 (SetL.all (IfConf.enc_len _) (IfConf.enc_len _)) (IfConf.enc_cell _)) ?_
  rintro _ _ rfl
  refine Sq.nil ?_
  refine hk9 _ _ ?_
  refine Run.regionD (M := [0, 0, 2, 6, 14, 0, 0, 96, 224, 480, 1022, 2047, 4095, 8191]) (q := 6335) (r := 48) (by kernel_rfl) ?_
  refine Dw.pure (i := 0) rfl (by kernel_rfl) (Want.none rfl) rfl (ltN rfl) (QP.move rfl rfl) ?_
  refine Dw.pure (i := 1) rfl (by kernel_rfl) (Want.none rfl) rfl (ltN rfl) (QP.move rfl rfl) ?_
  refine Dw.pure (i := 2) rfl (by kernel_rfl) (Want.none rfl) rfl (ltN rfl) (QP.nilCheck rfl rfl) ?_
  refine Dw.pure (i := 3) rfl (by kernel_rfl) (Want.none rfl) rfl (ltN rfl) (QP.fieldAddr rfl rfl f74_0) ?_
  refine Dw.read (i := 4) rfl (by kernel_rfl) (Want.none rfl) rfl (ltN rfl) (QR.load1 (v := .slice none 0 0) rfl rfl g72 (AnnounceBook.sub_l _)) ?_
  refine Dw.read (i := 5) rfl (by kernel_rfl) (Want.none rfl) rfl (ltN rfl) (QR.load rfl rfl g27 (IfConf.enc_sub _)) ?_
  refine Dw.eff (i := 6) (by kernel_rfl) (by kernel_rfl) ?_
  refine One.mk (o := _) (l := [5, 4]) rfl (by kernel_rfl) (Want.none rfl) rfl (ltN rfl) (EF.makeMap keyE valB rfl) (by kernel_rfl) ?_
  rintro _ _ ⟨r20, rfl, rfl⟩
  refine ⟨?_, ?_⟩
  ·rw [List.forall_mem_cons, List.forall_mem_cons]
   refine ⟨?_, ?_, fun _ h => (by cases h)⟩
   ·exact Look.mk rfl rfl rfl (QR.load rfl rfl g27 (IfConf.enc_sub _))
   ·exact Look.mk rfl rfl rfl (QR.load1 (v := .slice none 0 0) rfl rfl g72 (AnnounceBook.sub_l _))
  refine ?_
  refine Dw.pure (i := 7) rfl (by kernel_rfl) (Want.none rfl) rfl (ltN rfl) (QP.build (l := AnnounceOne.enc ⟨(x), _⟩) rfl st78 rfl (by exact ⟨(congrArg some (IfConf.enc_len _).symm), ⟨rfl, trivial⟩⟩) rfl) ?_
  refine Dw.eff (i := 8) (by kernel_rfl) (by kernel_rfl) ?_
  refine One.mk (o := _) (l := [4]) rfl (by kernel_rfl) (Want.none rfl) rfl (ltN rfl) (EF.boxA rfl rfl) (by kernel_rfl) ?_
  rintro _ _ ⟨b22, rfl, rfl⟩
  refine ⟨?_, ?_⟩
  ·rw [List.forall_mem_cons]
   refine ⟨?_, fun _ h => (by cases h)⟩
   ·exact Look.mk rfl rfl rfl (QR.load1 (v := .slice none 0 0) rfl rfl g72 (AnnounceBook.sub_l _))
  refine ?_
  refine Dw.eff (i := 9) (by kernel_rfl) (by kernel_rfl) ?_
  refine One.mk (o := _) (l := [4]) rfl (by kernel_rfl) (Want.none rfl) rfl (ltN rfl) (EF.buildSliceS rfl Try.underlying72 z75 zero75 rfl (by decide) rfl rfl rfl rfl) (by kernel_rfl) ?_
  rintro _ _ ⟨b23, rfl, rfl⟩
  refine ⟨?_, ?_⟩
  ·rw [List.forall_mem_cons]
   refine ⟨?_, fun _ h => (by cases h)⟩
   ·exact Look.mk rfl rfl rfl (QR.load1 (v := .slice none 0 0) rfl rfl g72 (AnnounceBook.sub_l _))
  refine ?_
  refine Dw.eff (i := 10) (by kernel_rfl) (by kernel_rfl) ?_
  refine One.mk (o := _) (l := []) rfl (by kernel_rfl) (Want.none rfl) rfl (ltN rfl) (EF.append1 (xs := []) (s := _) el75 (fun _ => rfl) (fun _ => cell_one rfl) rfl rfl rfl Try.underlying72 Try.underlying72 rfl rfl (by repeat constructor) (by repeat constructor) (by first | omega | (simp <;> omega))) (by kernel_rfl) ?_
  rintro sl24 _ rfl
  refine ⟨fun _ h => (by cases h), ?_⟩
  refine Dw.slCase (v := sl24) (xs := [] ++ [b22]) (by repeat constructor) (fun a24 c24 hv24 hh24 => ?_)
  subst hv24
  refine Dw.pure (i := 11) rfl (by kernel_rfl) (Want.none rfl) rfl (ltN rfl) (QP.nilCheck rfl rfl) ?_
  refine Dw.pure (i := 12) rfl (by kernel_rfl) (Want.none rfl) rfl (ltN rfl) (QP.fieldAddr rfl rfl f74_0) ?_
  refine Dw.eff (i := 13) (by kernel_rfl) (by kernel_rfl) ?_
  refine One.act (o := _) (l := []) rfl (by kernel_rfl) (Want.none rfl) rfl (EF.store rfl rfl rfl z72 (AnnounceBook.set_l _ ⟨a24, _, c24⟩) (cell_one rfl)) (by kernel_rfl) ?_
  rintro _ _ rfl
  refine ⟨fun _ h => (by cases h), ?_⟩
  refine Dw.nil (by kernel_rfl) ?_
  refine hk8 _ _ ?_
  refine Run.region ?_
  show Sq _ _ _ [0, 1] _ _ _ _
  refine Sq.quiet (i := 0) rfl (Want.none rfl) rfl (ltN rfl) (QP.add64 rfl rfl rfl (by first | omega | (simp <;> omega)) (by first | omega | (simp <;> omega))).read ?_
  refine Sq.quiet (i := 1) rfl (Want.none rfl) rfl (ltN rfl) (QP.move rfl rfl).read ?_
  refine Sq.nil ?_
  refine J.close (A := BkN b7 x 1) (m := [blk b7 (AnnounceBook.enc ⟨⟨a24, 1, c24⟩⟩) 74, slA 75 1 (fun p => [pv p]) (.slice a24 1 c24) [b22], blk b22 (AnnounceOne.enc ⟨x, some r20⟩) 78, mapE r20 []]) (.cons (by repeat constructor) (.cons (by repeat constructor) (.cons (by repeat constructor) (.cons (by repeat constructor) Takes.nil)))) bk_mk ?_
  exact J.envJ (J.keep (.cons (by repeat constructor) Takes.nil) (hl5 (1) (Nat.le_refl _) (by omega))) ⟨rfl, rfl, rfl, rfl, trivial⟩
 ·skip
  refine Sq.nil ?_
  refine hk6 _ _ ?_
  refine Run.seq fun k10 hk10 => ?_
  refine Run.cond_f rfl ?_
  refine Run.exit rfl ?_
  refine hk3 _ _ ?_
  refine Run.seq fun k11 hk11 => ?_
  refine Run.region ?_
  show Sq _ _ _ [0, 1] _ _ _ _
  obtain rfl : i = 1 := by omega
  rw [show BkN b7 x 1 = BkA b7 x [] from rfl]
  refine Sq.quiet (i := 0) rfl (Want.none rfl) rfl (ltN rfl) (QP.move rfl rfl).read ?_
  refine Sq.quiet (i := 1) rfl (Want.none rfl) rfl (ltN rfl) (QP.assign rfl rfl).read ?_
  refine Sq.nil ?_
  refine hk11 _ _ ?_
  refine Run.ret ?_
  exact J.ends (res_tmp rfl rfl) (.cons (by repeat constructor) Takes.nil) ⟨b7, rfl, rfl⟩
end Slb
