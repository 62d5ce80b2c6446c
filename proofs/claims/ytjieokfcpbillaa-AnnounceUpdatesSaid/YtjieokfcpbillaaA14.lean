/- A14: a part of the proof that a law of this package holds for every input; no condition. -/
import Derived.Test.YtjieokfcpbillaaA10
import Derived.Test.YtjieokfcpbillaaA11
namespace Slb
open Go Go.Proofs
set_option maxRecDepth 20000
theorem family_local {x : Bs 16} (h : x.l[0]? = some 254) : familyB x = 6 := familyB_not (i := 0) (by decide) h (by decide)
theorem pfamily_two (p : Prefix) : pfamilyB p = 4 ∨ pfamilyB p = 6 := by unfold pfamilyB; split; exact .inr rfl; exact familyB_two _
/-- What an interface's Book says by an update. -/
structure UpdT (q : IfConf) (t : Tlv) : Prop where
  ok : UpdOk t
  ivl : t.interval = ivl q
  fam : t.metric ≠ 65535 → familyB t.addr = pfamilyB t.pair.dst ∧ canB q t.pair = true
def TellOk (q : IfConf) (s : TabB × List Tlv) : Prop := (∀ e ∈ s.1, canB q e.1 = true) ∧ ∀ t ∈ s.2, UpdT q t
theorem can_pair {q : IfConf} {p : Pair} (h : canB q p = true) : checkPairB p = true := by
  unfold canB at h
  rw [Bool.and_eq_true] at h
  exact h.1
theorem can_fam {q : IfConf} (hq : IfOk q) {p : Pair} (h : canB q p = true) : familyB (hopA q p) = pfamilyB p.dst := by
  unfold canB at h
  rw [Bool.and_eq_true] at h
  have h2 := h.2
  unfold hopB at h2
  unfold hopA
  split
  · rename_i h4
    rw [if_pos h4] at h2
    rcases hq.addr4 with h5 | h5
    · exact absurd h5 (of_decide_eq_true h2)
    · rw [h5, h4]
  · rename_i h4
    rw [family_local hq.addr]
    rcases pfamily_two p.dst with h5 | h5
    · exact absurd h5 h4
    · exact h5.symm
theorem updT_ok {q : IfConf} (hq : IfOk q) {o : Offer} (ho : okO o) (hm : o.metric < 65535) (hc : canB q o.pair = true) : UpdT q (updT q o) :=
  ⟨⟨rfl, rfl, rfl, rfl, rfl, rfl, rfl, fun h => absurd (show o.metric = 65535 from h) (by omega), fun h => ho h, can_pair hc⟩, rfl, fun _ => ⟨can_fam hq hc, hc⟩⟩
theorem backT_ok {q : IfConf} {o : Offer} (hc : canB q o.pair = true) : UpdT q (backT q o) :=
  ⟨⟨rfl, rfl, rfl, rfl, rfl, rfl, rfl, fun _ => ⟨rfl, rfl⟩, fun h => absurd rfl h, can_pair hc⟩, rfl, fun h => absurd rfl h⟩
theorem TellOk.step {q : IfConf} (hq : IfOk q) {o : Offer} (ho : okO o) {s : TabB × List Tlv} (h : TellOk q s) : TellOk q (tstep q s o) := by
  unfold tstep
  split
  · rename_i hc
    refine ⟨fun e he => ?_, fun t ht => ?_⟩
    · rcases mem_aset he with rfl | he
      · exact hc.2
      · exact h.1 e (mem_adelB he)
    · rcases List.mem_append.1 ht with ht | ht
      · exact h.2 t ht
      · simp at ht; subst ht; exact updT_ok hq ho hc.1 hc.2
  · split
    · rename_i hl
      refine ⟨fun e he => h.1 e (mem_adelB he), fun t ht => ?_⟩
      rcases List.mem_append.1 ht with ht | ht
      · exact h.2 t ht
      · simp at ht; subst ht
        have : alook s.1 o.pair = some true := by cases ha : alook s.1 o.pair with | none => rw [ha] at hl; cases hl | some v => rw [ha] at hl; cases v with | false => cases hl | true => rfl
        exact backT_ok (h.1 (o.pair, true) (alook_some this))
    · exact h
theorem TellOk.fold {q : IfConf} (hq : IfOk q) (os : List Offer) (ho : ∀ o ∈ os, okO o) : ∀ {s : TabB × List Tlv}, TellOk q s → TellOk q (os.foldl (tstep q) s) := by
  induction os with
  | nil => exact fun h => h
  | cons o os ih => exact fun h => ih (fun p hp => ho p (List.mem_cons_of_mem _ hp)) (h.step hq (ho o List.mem_cons_self))
theorem ivl_min {q : IfConf} (hq : IfOk q) : IntKind.i64.wrap (ivl q) = (if 65535 < IntKind.i64.wrap (q.update.tdiv 10) then 65535 else IntKind.i64.wrap (q.update.tdiv 10)) := by
  have hu := hq.update
  have h00 := Int.tdiv_eq_ediv_of_nonneg (a := q.update) (b := 10) (by omega)
  have h1 : IntKind.i64.wrap (q.update.tdiv 10) = q.update.tdiv 10 := wrap_i64 (by omega) (by omega)
  unfold ivl
  rw [h1]
  have h0 : 0 ≤ q.update.tdiv 10 := by omega
  generalize q.update.tdiv 10 = z at h0 ⊢
  have h2 : ∀ y : Int, 0 ≤ y → y ≤ 65535 → IntKind.i64.wrap (IntKind.u16.wrap y) = y := fun y hy0 hy1 => by
    have : IntKind.u16.wrap y = y := by unfold IntKind.wrap; simp only [show (IntKind.u16.bits : Nat) = 16 from rfl, show IntKind.u16.signed = false from rfl]; simp; omega
    rw [this]
    exact wrap_i64 (by omega) (by omega)
  split
  · exact h2 _ (by omega) (by omega)
  · exact h2 _ h0 (by omega)

set_option maxHeartbeats 4000000 in
theorem law_upd (F : Fr) (q : IfConf) {a : Option Addr} {c : Nat} {xs : List Law21Act} (hc : xs.length ≤ 9223372036854775807) (ha : ArgSl F a 3 Law21Act.enc xs) (hw : ∀ x ∈ xs, ok41 F x)  : Spec Try.prog 4 #[.agg (IfConf.enc q).toArray, .slice a xs.length c] [] F (fun v S => v = .bool true ∧ S = []) := by
 obtain ⟨O, hO⟩ := Holds.of hw
 refine Spec.intro (N := 87) (args := [.agg (IfConf.enc q).toArray, .slice a xs.length c]) Try.func4 rfl rfl (by simp) ?_
 refine Run.seq fun k1 hk1 => ?_
 refine Run.region ?_
 show Sq _ _ _ [0, 1] _ _ _ _
 refine Sq.eff (i := 0) rfl (Want.none rfl) rfl (ltN rfl) (EF.boxA rfl rfl) ?_
 rintro _ _ ⟨b2, rfl, rfl⟩
 refine Sq.quiet (i := 1) rfl (Want.none rfl) rfl (ltN rfl) (QP.assign rfl rfl).read ?_
 refine Sq.nil ?_
 refine hk1 _ _ ?_
 refine Run.seq fun k2 hk2 => ?_
 refine Run.seq fun k3 hk3 => ?_
 refine Run.region ?_
 show Sq _ _ _ [0, 1, 2, 3, 4, 5, 6, 7, 8] _ _ _ _
 refine Sq.quiet (i := 0) rfl (Want.none rfl) rfl (ltN rfl) (QR.load rfl rfl g27 (IfConf.enc_sub _)) ?_
 refine Sq.eff (i := 1) rfl (Want.none rfl) rfl (ltN rfl) (EF.buildSlice1 rfl Try.underlying30 z27 zero27 (by simp [Value.cells, IfConf.enc_len]) (by decide) rfl rfl (IfConf.enc_len _) (by decide)) ?_
 rintro _ _ ⟨b11, rfl, rfl⟩
 refine Sq.eff (i := 2) rfl (Want.none rfl) rfl (ltN rfl) (EF.call rfl ce6 rfl Takes.nil (fun F' hle hr => right_spec F' (x := q) (hr b11 _ (by repeat constructor)))) ?_
 rintro _ _ ⟨_, ⟨r12, rfl, hr12, rfl⟩, rfl⟩
 refine J.app ?_
 refine J.caseB (fun c12 => ?_) (fun c12 => ?_)
 ·skip
  refine Sq.quiet (i := 3) rfl (Want.none rfl) rfl (ltN rfl) (QP.not rfl rfl).read ?_
  refine Sq.quiet (i := 4) rfl (Want.none rfl) rfl (ltN rfl) (QP.move rfl rfl).read ?_
  refine Sq.quiet (i := 5) rfl (Want.yes rfl rfl rfl rfl) rfl (ltN rfl) (QP.move rfl rfl).read ?_
  refine Sq.eff (i := 6) rfl (Want.yes rfl rfl rfl rfl) rfl (ltN rfl) (EF.call rfl ce7 rfl Takes.nil (fun F' hle hr => offers_spec F' hc (ha.mono hle) (hO.mono hle))) ?_
  rintro _ _ ⟨_, ⟨r16, rfl, hr16, rfl⟩, rfl⟩
  refine J.app ?_
  refine J.caseB (fun c16 => ?_) (fun c16 => ?_)
  ·skip
   refine Sq.quiet (i := 7) rfl (Want.yes rfl rfl rfl rfl) rfl (ltN rfl) (QP.not rfl rfl).read ?_
   refine Sq.quiet (i := 8) rfl (Want.none rfl) rfl (ltN rfl) (QP.pick_f rfl rfl rfl).read ?_
   refine Sq.nil ?_
   refine hk3 _ _ ?_
   refine Run.cond_f rfl ?_
   refine Run.skip ?_
   refine hk2 _ _ ?_
   refine Run.seq fun k4 hk4 => ?_
   refine Run.region ?_
   show Sq _ _ _ [0, 1, 2, 3] _ _ _ _
   have hop : OffersP O xs := hr16 (by simpa using c16)
   have hq : IfOk q := hr12 (by simpa using c12)
   have hxl := hop.1
   refine Sq.quiet (i := 0) rfl (Want.none rfl) rfl (ltN rfl) (QR.load rfl rfl g27 (IfConf.enc_sub _)) ?_
   refine Sq.eff (i := 1) rfl (Want.none rfl) rfl (ltN rfl) (EF.buildSlice1 rfl Try.underlying30 z27 zero27 (by simp [Value.cells, IfConf.enc_len]) (by decide) rfl rfl (IfConf.enc_len _) (by decide)) ?_
   rintro _ _ ⟨b21, rfl, rfl⟩
   refine Sq.eff (i := 2) rfl (Want.none rfl) rfl (ltN rfl) (EF.call rfl ce9 rfl Takes.nil (fun F' hle hr => new_spec F' (argSl_one IfConf.enc_len (x := q) (hr b21 _ (by repeat constructor))))) ?_
   rintro _ _ ⟨_, ⟨kb, rfl, rfl⟩, rfl⟩
   refine J.app ?_
   refine Sq.quiet (i := 3) rfl (Want.none rfl) rfl (ltN rfl) (QP.assign rfl rfl).read ?_
   refine Sq.nil ?_
   refine hk4 _ _ ?_
   refine Run.seq fun k5 hk5 => ?_
   refine Run.seq fun k6 hk6 => ?_
   refine Run.region ?_
   show Sq _ _ _ [0, 1] _ _ _ _
   refine Sq.quiet (i := 0) rfl (Want.none rfl) rfl (ltN rfl) (QP.move rfl rfl).read ?_
   refine Sq.quiet (i := 1) rfl (Want.none rfl) rfl (ltN rfl) (QP.ptr_eq_nil rfl rfl rfl Try.underlying33).read ?_
   refine Sq.nil ?_
   refine hk6 _ _ ?_
   refine Run.cond_f rfl ?_
   refine Run.skip ?_
   refine hk5 _ _ ?_
   refine Run.seq fun k7 hk7 => ?_
   refine Run.seq fun k8 hk8 => ?_
   refine Run.region ?_
   show Sq _ _ _ [0] _ _ _ _
   refine Sq.quiet (i := 0) rfl (Want.none rfl) rfl (ltN rfl) (QP.assign rfl rfl).read ?_
   refine Sq.nil ?_
   refine hk8 _ _ ?_
   refine Run.block ?_
   refine Run.loop2 (fun (i : Nat) (M : TabB) => i ≤ xs.length ∧ (∀ e ∈ M, canB q e.1 = true) ∧ M.length ≤ i * 150) (fun i M => .cons 1 (.slice a xs.length c) (.cons 2 (.pointer (some ⟨b2, 0, none⟩)) (.cons 5 (fp kb) (.cons 6 (.int .i64 i) (.nil))))) (fun i M => [BkA kb q M, blk b2 (IfConf.enc q) 27]) (fun i M => xs.length - i) (0) ([]) (⟨Nat.zero_le _, by simp, Nat.zero_le _⟩) ?_ ?_
   ·exact fun _ j => J.envJ (J.keep (.cons (by repeat constructor) (.cons (by repeat constructor) Takes.nil)) j) ⟨rfl, rfl, rfl, rfl, trivial⟩
   rintro i M ⟨hile, hM, hMl⟩ kl9 hl9
   refine Run.seq fun k10 hk10 => ?_
   refine Run.seq fun k11 hk11 => ?_
   refine Run.region ?_
   show Sq _ _ _ [0, 1, 2, 3] _ _ _ _
   refine Sq.quiet (i := 0) rfl (Want.none rfl) rfl (ltN rfl) (QP.move rfl rfl).read ?_
   refine Sq.quiet (i := 1) rfl (Want.none rfl) rfl (ltN rfl) (QP.move rfl rfl).read ?_
   refine Sq.quiet (i := 2) rfl (Want.none rfl) rfl (ltN rfl) (QP.len rfl rfl rfl Try.underlying28).read ?_
   refine Sq.quiet (i := 3) rfl (Want.none rfl) rfl (ltN rfl) (QP.lss rfl rfl rfl).read ?_
   refine J.caseD (fun c28 => ?_) (fun c28 => ?_)
   ·skip
    refine Sq.nil ?_
    refine hk11 _ _ ?_
    refine Run.cond_t rfl ?_
    refine Run.skip ?_
    refine hk10 _ _ ?_
    refine Run.seq fun k12 hk12 => ?_
    refine Run.block ?_
    refine Run.seq fun k13 hk13 => ?_
    refine Run.region ?_
    show Sq _ _ _ [0, 1, 2, 3, 4, 5, 6, 7] _ _ _ _
    have hlt : i < xs.length := by omega
    obtain ⟨x, hi⟩ : ∃ x, xs[i]? = some x := ⟨_, List.getElem?_eq_getElem hlt⟩
    obtain ⟨b0, o0, rfl, hs0⟩ := ha.get (by omega)
    obtain ⟨hn, hol, hoa, how⟩ := hO x (List.mem_of_getElem? hi)
    obtain ⟨hosl, hok⟩ := hop.2 x (List.mem_of_getElem? hi)
    generalize hos : O x = os at hn hol hoa how hosl hok
    have hlv : Slc.v x.l = .slice x.l.a os.length x.l.c := by rw [← hn]; rfl
    refine Sq.quiet (i := 0) rfl (Want.none rfl) rfl (ltN rfl) (QP.move rfl rfl).read ?_
    refine Sq.quiet (i := 1) rfl (Want.none rfl) rfl (ltN rfl) (QP.move rfl rfl).read ?_
    refine Sq.quiet (i := 2) rfl (Want.none rfl) rfl (ltN rfl) (QP.move rfl rfl).read ?_
    refine Sq.quiet (i := 3) rfl (Want.none rfl) rfl (ltN rfl) (QP.indexAddr rfl rfl rfl Try.underlying28 z41 (by first | omega | (simp <;> omega)) (by first | omega | (simp <;> omega))).read ?_
    refine Sq.quiet (i := 4) rfl (Want.none rfl) rfl (ltN rfl) (QP.fieldAddr rfl rfl f41_2).read ?_
    refine Sq.quiet (i := 5) rfl (Want.none rfl) rfl (ltN rfl) (QR.loadSlF1 rfl rfl g39 Law21Act.enc_len (hs0 _) hi (Law21Act.sub_l _)) ?_
    rw [hlv]
    refine Sq.eff (i := 6) rfl (Want.none rfl) rfl (ltN rfl) (EF.call rfl ce10 rfl (.cons (by repeat constructor) Takes.nil) (fun F' hle hr => tellB F' (os := os) (hoa.mono hle) (by omega))) ?_
    rintro v37 _ ⟨_, rfl, rfl⟩
    refine J.app ?_
    have htl := TellOk.fold hq os hok (s := (M, [])) ⟨hM, fun t ht => by cases ht⟩
    obtain ⟨htl1, htl2⟩ := htl
    have hm2 := tfold_lenM q os (M, [])
    have ht2 := tfold_len q os (M, [])
    simp only [List.length_nil] at hm2 ht2
    generalize (os.foldl (tstep q) (M, [])).1 = M2 at htl1 hm2 ⊢
    generalize (os.foldl (tstep q) (M, [])).2 = T at htl2 ht2 ⊢
    refine J.slCase (v := v37) (xs := T) (by repeat constructor) (fun a37 c37 hv37 hh37 => ?_)
    subst hv37
    refine Sq.quiet (i := 7) rfl (Want.none rfl) rfl (ltN rfl) (QP.assign rfl rfl).read ?_
    refine Sq.nil ?_
    refine hk13 _ _ ?_
    refine Run.seq fun k14 hk14 => ?_
    refine Run.region ?_
    show Sq _ _ _ [0] _ _ _ _
    refine Sq.quiet (i := 0) rfl (Want.none rfl) rfl (ltN rfl) (QP.assign rfl rfl).read ?_
    refine Sq.nil ?_
    refine hk14 _ _ ?_
    refine Run.block ?_
    refine Run.loop1 (fun (j : Nat) => j ≤ T.length) (fun j => .cons 1 (.slice (some ⟨b0, o0, none⟩) xs.length c) (.cons 2 (.pointer (some ⟨b2, 0, none⟩)) (.cons 5 (fp kb) (.cons 6 (.int .i64 i) (.cons 7 (.slice a37 T.length c37) (.cons 8 (.int .i64 j) (.nil))))))) (fun j => [BkA kb q M2, blk b2 (IfConf.enc q) 27, slA 51 68 Tlv.enc (.slice a37 T.length c37) T]) (fun j => T.length - j) (0) (Nat.zero_le _) ?_ ?_
    ·exact fun _ j => J.envJ (J.keep (.cons (by repeat constructor) (.cons (by repeat constructor) (.cons (by repeat constructor) Takes.nil))) j) ⟨rfl, rfl, rfl, rfl, rfl, rfl, trivial⟩
    rintro j hjle kl15 hl15
    refine Run.seq fun k16 hk16 => ?_
    refine Run.seq fun k17 hk17 => ?_
    refine Run.region ?_
    show Sq _ _ _ [0, 1, 2, 3] _ _ _ _
    refine Sq.quiet (i := 0) rfl (Want.none rfl) rfl (ltN rfl) (QP.move rfl rfl).read ?_
    refine Sq.quiet (i := 1) rfl (Want.none rfl) rfl (ltN rfl) (QP.move rfl rfl).read ?_
    refine Sq.quiet (i := 2) rfl (Want.none rfl) rfl (ltN rfl) (QP.len rfl rfl rfl Try.underlying37).read ?_
    refine Sq.quiet (i := 3) rfl (Want.none rfl) rfl (ltN rfl) (QP.lss rfl rfl rfl).read ?_
    refine J.caseD (fun c41 => ?_) (fun c41 => ?_)
    ·skip
     refine Sq.nil ?_
     refine hk17 _ _ ?_
     refine Run.cond_t rfl ?_
     refine Run.skip ?_
     refine hk16 _ _ ?_
     refine Run.seq fun k18 hk18 => ?_
     refine Run.block ?_
     refine Run.seq fun k19 hk19 => ?_
     refine Run.region ?_
     show Sq _ _ _ [0, 1, 2, 3, 4, 5] _ _ _ _
     obtain ⟨t, hj⟩ : ∃ t, T[j]? = some t := ⟨_, List.getElem?_eq_getElem (by omega)⟩
     obtain ⟨bt, ot, rfl⟩ := hh37.get (by omega)
     have htk := htl2 t (List.mem_of_getElem? hj)
     refine Sq.quiet (i := 0) rfl (Want.none rfl) rfl (ltN rfl) (QP.move rfl rfl).read ?_
     refine Sq.quiet (i := 1) rfl (Want.none rfl) rfl (ltN rfl) (QP.move rfl rfl).read ?_
     refine Sq.quiet (i := 2) rfl (Want.none rfl) rfl (ltN rfl) (QP.indexAddr rfl rfl rfl Try.underlying37 z51 (by first | omega | (simp <;> omega)) (by first | omega | (simp <;> omega))).read ?_
     refine Sq.quiet (i := 3) rfl (Want.none rfl) rfl (ltN rfl) (QR.loadSl rfl rfl g51 Tlv.enc_len (SlAt.own Tlv.enc_len (by repeat constructor)) hj) ?_
     refine Sq.eff (i := 4) rfl (Want.none rfl) rfl (ltN rfl) (EF.allocA (l := Tlv.enc Tlv.zero) rfl zero51) ?_
     rintro _ _ ⟨b9, rfl, rfl⟩
     refine Sq.act (i := 5) rfl (Want.none rfl) rfl (EF.storeA rfl rfl rfl z51 (SetL.all (Tlv.enc_len _) (Tlv.enc_len _)) (Tlv.enc_cell _)) ?_
     rintro _ _ rfl
     refine Sq.nil ?_
     refine hk19 _ _ ?_
     refine Run.seq fun k20 hk20 => ?_
     refine Run.seq fun k21 hk21 => ?_
     refine Run.region ?_
     show Sq _ _ _ [0, 1, 2, 3, 4, 5, 6, 7, 8, 9, 10, 11, 12, 13, 14, 15, 16, 17] _ _ _ _
     refine Sq.quiet (i := 0) rfl (Want.none rfl) rfl (ltN rfl) (QR.load rfl rfl g51 (Tlv.enc_sub _)) ?_
     refine Sq.eff (i := 1) rfl (Want.none rfl) rfl (ltN rfl) (EF.call rfl ce13 rfl Takes.nil (fun F' hle hr => rcheckU_spec F' t htk.ok)) ?_
     rintro _ _ ⟨_, ⟨rfl, rfl⟩, rfl⟩
     refine J.app ?_
     refine Sq.quiet (i := 2) rfl (Want.none rfl) rfl (ltN rfl) (QP.neq rfl rfl rfl).read ?_
     refine Sq.quiet (i := 3) rfl (Want.none rfl) rfl (ltN rfl) (QP.move rfl rfl).read ?_
     refine Sq.quiet (i := 4) rfl (Want.yes rfl rfl rfl rfl) rfl (ltN rfl) (QP.fieldAddr rfl rfl f51_0).read ?_
     refine Sq.quiet (i := 5) rfl (Want.yes rfl rfl rfl rfl) rfl (ltN rfl) (QR.load1 rfl rfl g5 (Tlv.sub_type _)) ?_
     refine Sq.quiet (i := 6) rfl (Want.yes rfl rfl rfl rfl) rfl (ltN rfl) (QP.neq rfl rfl rfl).read ?_
     refine J.decF (by rw [htk.ok.ty]; decide) ?_
     refine Sq.quiet (i := 7) rfl (Want.none rfl) rfl (ltN rfl) (QP.pick_f rfl rfl rfl).read ?_
     refine Sq.quiet (i := 8) rfl (Want.none rfl) rfl (ltN rfl) (QP.move rfl rfl).read ?_
     refine Sq.quiet (i := 9) rfl (Want.yes rfl rfl rfl rfl) rfl (ltN rfl) (QP.fieldAddr rfl rfl f51_2).read ?_
     refine Sq.quiet (i := 10) rfl (Want.yes rfl rfl rfl rfl) rfl (ltN rfl) (QR.load1 rfl rfl g46 (Tlv.sub_interval _)) ?_
     refine Sq.quiet (i := 11) rfl (Want.yes rfl rfl rfl rfl) rfl (ltN rfl) (QP.conv rfl rfl Try.underlying46 Try.underlying3).read ?_
     refine Sq.quiet (i := 12) rfl (Want.yes rfl rfl rfl rfl) rfl (ltN rfl) (QP.fieldAddr rfl rfl f27_4).read ?_
     refine Sq.quiet (i := 13) rfl (Want.yes rfl rfl rfl rfl) rfl (ltN rfl) (QR.load1 rfl rfl g3 (IfConf.sub_update _)) ?_
     refine Sq.quiet (i := 14) rfl (Want.yes rfl rfl rfl rfl) rfl (ltN rfl) (QP.quo rfl rfl rfl (by decide)).read ?_
     refine Sq.quiet (i := 15) rfl (Want.yes rfl rfl rfl rfl) rfl (ltN rfl) (QP.min2 rfl rfl rfl).read ?_
     refine Sq.quiet (i := 16) rfl (Want.yes rfl rfl rfl rfl) rfl (ltN rfl) (QP.neq rfl rfl rfl).read ?_
     refine J.decF (by rw [htk.ivl, ivl_min hq]; exact fun h => h rfl) ?_
     refine Sq.quiet (i := 17) rfl (Want.none rfl) rfl (ltN rfl) (QP.pick_f rfl rfl rfl).read ?_
     refine Sq.nil ?_
     refine hk21 _ _ ?_
     refine Run.cond_f rfl ?_
     refine Run.skip ?_
     refine hk20 _ _ ?_
     refine Run.seq fun k22 hk22 => ?_
     refine Run.regionD (M := [0, 1, 3, 7, 15, 31, 63, 15, 143, 399, 1023, 2047, 4095, 8191, 8191, 24575, 65535, 131071, 262143, 524287]) (q := 981951) (r := 33314) (by kernel_rfl) ?_
     refine Dw.pure (i := 0) rfl (by kernel_rfl) (Want.none rfl) rfl (ltN rfl) (QP.fieldAddr rfl rfl f51_5) ?_
     refine Dw.read (i := 1) rfl (by kernel_rfl) (Want.none rfl) rfl (ltN rfl) (QR.load1 rfl rfl g46 (Tlv.sub_metric _)) ?_
     refine Dw.pure (i := 2) rfl (by kernel_rfl) (Want.none rfl) rfl (ltN rfl) (QP.neq rfl rfl rfl) ?_
     refine J.caseD (fun c68 => ?_) (fun c68 => ?_)
     ·skip
      refine Dw.pure (i := 3) rfl (by kernel_rfl) (Want.none rfl) rfl (ltN rfl) (QP.move rfl rfl) ?_
      refine Dw.pure (i := 4) rfl (by kernel_rfl) (Want.yes rfl rfl rfl rfl) rfl (ltN rfl) (QP.fieldAddr rfl rfl f51_10) ?_
      refine Dw.read (i := 5) rfl (by kernel_rfl) (Want.yes rfl rfl rfl rfl) rfl (ltN rfl) (QR.load rfl rfl g23 (Tlv.sub_addr _)) ?_
      refine Dw.pure (i := 7) rfl (by kernel_rfl) (Want.yes rfl rfl rfl rfl) rfl (ltN rfl) (QP.fieldAddr rfl rfl f51_11) ?_
      refine Dw.pure (i := 8) rfl (by kernel_rfl) (Want.yes rfl rfl rfl rfl) rfl (ltN rfl) (QP.fieldAddr rfl rfl f45_0) ?_
      refine Dw.read (i := 9) rfl (by kernel_rfl) (Want.yes rfl rfl rfl rfl) rfl (ltN rfl) (QR.load rfl rfl g43 ((Tlv.sub_pair _).trans (Pair.sub_dst _))) ?_
      refine Dw.eff (i := 6) (by kernel_rfl) (by kernel_rfl) ?_
      refine One.mk (o := _) (l := [9]) rfl (by kernel_rfl) (Want.yes rfl rfl rfl rfl) rfl (ltN rfl) (EF.call rfl ce14 rfl Takes.nil (fun F' hle hr => family_spec F' ((t).addr))) (by kernel_rfl) ?_
      rintro _ _ ⟨_, ⟨rfl, rfl⟩, rfl⟩
      refine ⟨?_, ?_⟩
      ·rw [List.forall_mem_cons]
       refine ⟨?_, fun _ h => (by cases h)⟩
       ·refine Look.app ?_
        exact Look.mk rfl rfl rfl (QR.load rfl rfl g43 ((Tlv.sub_pair _).trans (Pair.sub_dst _)))
      refine ?_
      refine J.app ?_
      refine Dw.eff (i := 10) (by kernel_rfl) (by kernel_rfl) ?_
      refine One.mk (o := _) (l := []) rfl (by kernel_rfl) (Want.yes rfl rfl rfl rfl) rfl (ltN rfl) (EF.call rfl ce15 rfl Takes.nil (fun F' hle hr => pfamily_spec F' (((t).pair).dst))) (by kernel_rfl) ?_
      rintro _ _ ⟨_, ⟨rfl, rfl⟩, rfl⟩
      refine ⟨fun _ h => (by cases h), ?_⟩
      refine J.app ?_
      refine Dw.pure (i := 11) rfl (by kernel_rfl) (Want.yes rfl rfl rfl rfl) rfl (ltN rfl) (QP.neq rfl rfl rfl) ?_
      refine J.decF (by rw [(htk.fam c68).1]; exact fun h => h rfl) ?_
      refine Dw.pure (i := 12) rfl (by kernel_rfl) (Want.yes rfl rfl rfl rfl) rfl (ltN rfl) (QP.move rfl rfl) ?_
      refine Dw.pure (i := 13) rfl (by kernel_rfl) (Want.yes rfl rfl rfl rfl) rfl (ltN rfl) (QP.move rfl rfl) ?_
      refine Dw.pure (i := 14) rfl (by kernel_rfl) (Want.yes rfl rfl rfl rfl) rfl (ltN rfl) (QP.fieldAddr rfl rfl f51_11) ?_
      refine Dw.read (i := 15) rfl (by kernel_rfl) (Want.yes rfl rfl rfl rfl) rfl (ltN rfl) (QR.load rfl rfl g45 (Tlv.sub_pair _)) ?_
      refine Dw.eff (i := 16) (by kernel_rfl) (by kernel_rfl) ?_
      refine One.mk (o := _) (l := []) rfl (by kernel_rfl) (Want.yes rfl rfl rfl rfl) rfl (ltN rfl) (EF.call rfl ce16 rfl (.cons (by repeat constructor) Takes.nil) (fun F' hle hr => canBk F' (M := M2) t.pair)) (by kernel_rfl) ?_
      rintro _ _ ⟨_, ⟨rfl, rfl⟩, rfl⟩
      refine ⟨fun _ h => (by cases h), ?_⟩
      refine J.app ?_
      refine J.boolT ((htk.fam c68).2) ?_
      refine Dw.pure (i := 17) rfl (by kernel_rfl) (Want.yes rfl rfl rfl rfl) rfl (ltN rfl) (QP.not rfl rfl) ?_
      refine Dw.pure (i := 18) rfl (by kernel_rfl) (Want.yes rfl rfl rfl rfl) rfl (ltN rfl) (QP.pick_f rfl rfl rfl) ?_
      refine Dw.pure (i := 19) rfl (by kernel_rfl) (Want.none rfl) rfl (ltN rfl) (QP.pick_t rfl rfl rfl) ?_
      refine Dw.nil (by kernel_rfl) ?_
      refine hk22 _ _ ?_
      refine Run.cond_f rfl ?_
      refine Run.skip ?_
      refine hk18 _ _ ?_
      refine Run.region ?_
      show Sq _ _ _ [0, 1, 2] _ _ _ _
      refine Sq.quiet (i := 0) rfl (Want.none rfl) rfl (ltN rfl) (QP.move rfl rfl).read ?_
      refine Sq.quiet (i := 1) rfl (Want.none rfl) rfl (ltN rfl) (QP.add64 rfl rfl rfl (by first | omega | (simp <;> omega)) (by first | omega | (simp <;> omega))).read ?_
      refine Sq.quiet (i := 2) rfl (Want.none rfl) rfl (ltN rfl) (QP.assign rfl rfl).read ?_
      refine Sq.nil ?_
      exact J.envJ (J.keep (.cons (by repeat constructor) (.cons (by repeat constructor) (.cons (by repeat constructor) Takes.nil))) (hl15 (j + 1) (by omega) (by omega))) ⟨rfl, rfl, rfl, rfl, rfl, rfl, trivial⟩
     ·skip
      refine Dw.pure (i := 3) rfl (by kernel_rfl) (Want.none rfl) rfl (ltN rfl) (QP.move rfl rfl) ?_
      refine Dw.skip (i := 4) rfl (by kernel_rfl) (Want.no rfl rfl rfl rfl) rfl (ltN rfl) ?_
      refine Dw.skip (i := 5) rfl (by kernel_rfl) (Want.no rfl rfl rfl rfl) rfl (ltN rfl) ?_
      refine Dw.skip (i := 7) rfl (by kernel_rfl) (Want.no rfl rfl rfl rfl) rfl (ltN rfl) ?_
      refine Dw.skip (i := 8) rfl (by kernel_rfl) (Want.no rfl rfl rfl rfl) rfl (ltN rfl) ?_
      refine Dw.skip (i := 9) rfl (by kernel_rfl) (Want.no rfl rfl rfl rfl) rfl (ltN rfl) ?_
      refine Dw.eff (i := 6) (by kernel_rfl) (by kernel_rfl) ?_
      refine One.skipD (o := _) rfl (by kernel_rfl) (Want.no rfl rfl rfl rfl) rfl (ltN rfl) ?_
      refine Dw.eff (i := 10) (by kernel_rfl) (by kernel_rfl) ?_
      refine One.skipD (o := _) rfl (by kernel_rfl) (Want.no rfl rfl rfl rfl) rfl (ltN rfl) ?_
      refine Dw.skip (i := 11) rfl (by kernel_rfl) (Want.no rfl rfl rfl rfl) rfl (ltN rfl) ?_
      refine Dw.skip (i := 12) rfl (by kernel_rfl) (Want.no rfl rfl rfl rfl) rfl (ltN rfl) ?_
      refine Dw.skip (i := 13) rfl (by kernel_rfl) (Want.undef rfl rfl rfl) rfl (ltN rfl) ?_
      refine Dw.skip (i := 14) rfl (by kernel_rfl) (Want.undef rfl rfl rfl) rfl (ltN rfl) ?_
      refine Dw.skip (i := 15) rfl (by kernel_rfl) (Want.undef rfl rfl rfl) rfl (ltN rfl) ?_
      refine Dw.eff (i := 16) (by kernel_rfl) (by kernel_rfl) ?_
      refine One.skipD (o := _) rfl (by kernel_rfl) (Want.undef rfl rfl rfl) rfl (ltN rfl) ?_
      refine Dw.skip (i := 17) rfl (by kernel_rfl) (Want.undef rfl rfl rfl) rfl (ltN rfl) ?_
      refine Dw.skip (i := 18) rfl (by kernel_rfl) (Want.no rfl rfl rfl rfl) rfl (ltN rfl) ?_
      refine Dw.pure (i := 19) rfl (by kernel_rfl) (Want.none rfl) rfl (ltN rfl) (QP.pick_f rfl rfl rfl) ?_
      refine Dw.nil (by kernel_rfl) ?_
      refine hk22 _ _ ?_
      refine Run.cond_f rfl ?_
      refine Run.skip ?_
      refine hk18 _ _ ?_
      refine Run.region ?_
      show Sq _ _ _ [0, 1, 2] _ _ _ _
      refine Sq.quiet (i := 0) rfl (Want.none rfl) rfl (ltN rfl) (QP.move rfl rfl).read ?_
      refine Sq.quiet (i := 1) rfl (Want.none rfl) rfl (ltN rfl) (QP.add64 rfl rfl rfl (by first | omega | (simp <;> omega)) (by first | omega | (simp <;> omega))).read ?_
      refine Sq.quiet (i := 2) rfl (Want.none rfl) rfl (ltN rfl) (QP.assign rfl rfl).read ?_
      refine Sq.nil ?_
      exact J.envJ (J.keep (.cons (by repeat constructor) (.cons (by repeat constructor) (.cons (by repeat constructor) Takes.nil))) (hl15 (j + 1) (by omega) (by omega))) ⟨rfl, rfl, rfl, rfl, rfl, rfl, trivial⟩
    ·skip
     refine Sq.nil ?_
     refine hk17 _ _ ?_
     refine Run.cond_f rfl ?_
     refine Run.exit rfl ?_
     refine hk12 _ _ ?_
     refine Run.region ?_
     show Sq _ _ _ [0, 1, 2] _ _ _ _
     refine Sq.quiet (i := 0) rfl (Want.none rfl) rfl (ltN rfl) (QP.move rfl rfl).read ?_
     refine Sq.quiet (i := 1) rfl (Want.none rfl) rfl (ltN rfl) (QP.add64 rfl rfl rfl (by first | omega | (simp <;> omega)) (by first | omega | (simp <;> omega))).read ?_
     refine Sq.quiet (i := 2) rfl (Want.none rfl) rfl (ltN rfl) (QP.assign rfl rfl).read ?_
     refine Sq.nil ?_
     exact J.envJ (J.keep (.cons (by repeat constructor) (.cons (by repeat constructor) Takes.nil)) (hl9 (i + 1) (M2) (⟨by omega, htl1, by omega⟩) (by omega))) ⟨rfl, rfl, rfl, rfl, trivial⟩
   ·skip
    refine Sq.nil ?_
    refine hk11 _ _ ?_
    refine Run.cond_f rfl ?_
    refine Run.exit rfl ?_
    refine hk7 _ _ ?_
    refine Run.seq fun k23 hk23 => ?_
    refine Run.region ?_
    show Sq _ _ _ [0, 1] _ _ _ _
    refine Sq.eff (i := 0) rfl (Want.none rfl) rfl (ltN rfl) (EF.call rfl ce8 rfl Takes.nil (fun F' hle hr => live_spec F')) ?_
    rintro _ _ ⟨_, ⟨rfl, rfl⟩, rfl⟩
    refine J.app ?_
    refine Sq.quiet (i := 1) rfl (Want.none rfl) rfl (ltN rfl) (QP.assign rfl rfl).read ?_
    refine Sq.nil ?_
    refine hk23 _ _ ?_
    refine Run.ret ?_
    exact J.ends (res_tmp rfl rfl) Takes.nil ⟨rfl, rfl⟩
  ·skip
   refine Sq.quiet (i := 7) rfl (Want.yes rfl rfl rfl rfl) rfl (ltN rfl) (QP.not rfl rfl).read ?_
   refine Sq.quiet (i := 8) rfl (Want.none rfl) rfl (ltN rfl) (QP.pick_f rfl rfl rfl).read ?_
   refine Sq.nil ?_
   refine hk3 _ _ ?_
   refine Run.cond_t rfl ?_
   refine Run.seq fun k24 hk24 => ?_
   refine Run.region ?_
   show Sq _ _ _ [0, 1] _ _ _ _
   refine Sq.eff (i := 0) rfl (Want.none rfl) rfl (ltN rfl) (EF.call rfl ce8 rfl Takes.nil (fun F' hle hr => live_spec F')) ?_
   rintro _ _ ⟨_, ⟨rfl, rfl⟩, rfl⟩
   refine J.app ?_
   refine Sq.quiet (i := 1) rfl (Want.none rfl) rfl (ltN rfl) (QP.assign rfl rfl).read ?_
   refine Sq.nil ?_
   refine hk24 _ _ ?_
   refine Run.ret ?_
   exact J.ends (res_tmp rfl rfl) Takes.nil ⟨rfl, rfl⟩
 ·skip
  refine Sq.quiet (i := 3) rfl (Want.none rfl) rfl (ltN rfl) (QP.not rfl rfl).read ?_
  refine Sq.quiet (i := 4) rfl (Want.none rfl) rfl (ltN rfl) (QP.move rfl rfl).read ?_
  refine Sq.skip (i := 5) rfl (Want.no rfl rfl rfl rfl) rfl (ltN rfl) ?_
  refine Sq.skip (i := 6) rfl (Want.no rfl rfl rfl rfl) rfl (ltN rfl) ?_
  refine Sq.skip (i := 7) rfl (Want.no rfl rfl rfl rfl) rfl (ltN rfl) ?_
  refine Sq.quiet (i := 8) rfl (Want.none rfl) rfl (ltN rfl) (QP.pick_t rfl rfl rfl).read ?_
  refine Sq.nil ?_
  refine hk3 _ _ ?_
  refine Run.cond_t rfl ?_
  refine Run.seq fun k25 hk25 => ?_
  refine Run.region ?_
  show Sq _ _ _ [0, 1] _ _ _ _
  refine Sq.eff (i := 0) rfl (Want.none rfl) rfl (ltN rfl) (EF.call rfl ce8 rfl Takes.nil (fun F' hle hr => live_spec F')) ?_
  rintro _ _ ⟨_, ⟨rfl, rfl⟩, rfl⟩
  refine J.app ?_
  refine Sq.quiet (i := 1) rfl (Want.none rfl) rfl (ltN rfl) (QP.assign rfl rfl).read ?_
  refine Sq.nil ?_
  refine hk25 _ _ ?_
  refine Run.ret ?_
  exact J.ends (res_tmp rfl rfl) Takes.nil ⟨rfl, rfl⟩
end Slb
