/- N19: a part of the proof that a law of this package holds for every input; no condition. -/
import Derived.Test.YtpjndmgdboabfaaN15
namespace Slb
open Go Go.Proofs
set_option maxRecDepth 20000
/-- A history that a while of silence empties. -/
def QuietH (now : Int) (h : History) (g a : Int) : Prop := h.bits = 0 ∨ (h.known = true ∧ 0 < g ∧ a ≤ now + 983025)
structure QuietN (now : Int) (M : TabN) : Prop where
  m : ∀ e ∈ M, QuietH now e.2.multi e.2.multiGap e.2.multiAt
  u : ∀ e ∈ M, QuietH now e.2.uni e.2.uniGap e.2.uniAt
theorem QuietH.mono {now now2 : Int} {h : History} {g a : Int} (hn : now ≤ now2) (q : QuietH now h g a) : QuietH now2 h g a := q.imp id fun ⟨h1, h2, h3⟩ => ⟨h1, h2, by omega⟩
theorem QuietN.mono {now now2 : Int} {M : TabN} (hn : now ≤ now2) (q : QuietN now M) : QuietN now2 M := ⟨fun e he => (q.m e he).mono hn, fun e he => (q.u e he).mono hn⟩
theorem QuietN.nil (now : Int) : QuietN now [] := ⟨fun _ h => (by cases h), fun _ h => (by cases h)⟩
theorem QuietN.set {now : Int} {M : TabN} (q : QuietN now M) (k : NeighKey) (s : Neighbour) (h1 : QuietH now s.multi s.multiGap s.multiAt) (h2 : QuietH now s.uni s.uniGap s.uniAt) : QuietN now (aset M k s) :=
  ⟨fun e he => by rcases mem_aset he with rfl | he; exact h1; exact q.m e he, fun e he => by rcases mem_aset he with rfl | he; exact h2; exact q.u e he⟩
theorem quiet_hear {now iv : Int} (h : History) (q : Int) (hi : 0 < iv) (h2 : iv ≤ 65535) : QuietH now (hearF h q) (10 * iv) (helloAt now iv) := by
  refine .inr ⟨rfl, by omega, ?_⟩
  unfold helloAt
  rw [if_pos (by omega)]
  omega
theorem quiet_helloR {now : Int} {h : Tlv} {st : List Int} {s : Neighbour} (hw : h.WF) (hi : 0 < h.interval) (h1 : QuietH now s.multi s.multiGap s.multiAt) (h2 : QuietH now s.uni s.uniGap s.uniAt) :
    QuietH now (helloR now h st s).multi (helloR now h st s).multiGap (helloR now h st s).multiAt ∧ QuietH now (helloR now h st s).uni (helloR now h st s).uniGap (helloR now h st s).uniAt := by
  have hiv : 0 ≤ h.interval ∧ h.interval ≤ 65535 := hw.2.2.1
  unfold helloR helloH stampN
  cases st <;> cases h.unicast <;> first | exact ⟨quiet_hear _ _ hi hiv.2, h2⟩ | exact ⟨h1, quiet_hear _ _ hi hiv.2⟩
theorem quiet_hello {nif : Nat} {most now : Int} {M : TabN} (q : QuietN now M) (j : I64) (fr : Bs 16) {h : Tlv} (hw : h.WF) (hi : 0 < h.interval) (st : List Int) : QuietN now (helloF nif most M now j fr h st).2 := by
  unfold helloF
  split
  · exact q
  · split
    · split
      · exact q
      · have := quiet_helloR (now := now) (st := st) (s := newN j fr) hw hi (.inl rfl) (.inl rfl)
        exact q.set _ _ this.1 this.2
    · rename_i s h0
      have hm := alook_some h0
      have := quiet_helloR (now := now) (st := st) (s := s) hw hi (q.m _ hm) (q.u _ hm)
      exact q.set _ _ this.1 this.2
theorem quiet_late {now : Int} {h : History} {g a : Int} (hb : hBits h) (hg : g ≤ 655350) (q : QuietH now h g a) : QuietH now (lateF h g a now).1 g (lateF h g a now).2 := by
  rcases q with q | ⟨h1, h2, h3⟩
  · rw [late_same (by rintro ⟨_, h4, _⟩; exact h4 q)]
    exact .inl q
  · refine .inr ⟨by rw [late_known]; exact h1, h2, ?_⟩
    have := late_le (h := h) (g := g) (a := a) (now := now)
    split at this <;> omega
theorem quiet_tick {nif : Nat} {now : Int} {M : TabN} (g : GoodN nif M) (q : QuietN now M) : QuietN now (tickM now M) := by
  refine ⟨fun e he => ?_, fun e he => ?_⟩
  all_goals obtain ⟨e', he', hg, rfl⟩ := mem_tick he
  · have h1 := tick_multi now e'.2
    show QuietH now (tickR now e'.2).multi (tickR now e'.2).multiGap (tickR now e'.2).multiAt
    rw [h1.1, h1.2.1, h1.2.2]
    exact quiet_late (g.hist e' he').1 (g.rows e' he').mg.2 (q.m e' he')
  · have h1 := tick_uni now e'.2
    show QuietH now (tickR now e'.2).uni (tickR now e'.2).uniGap (tickR now e'.2).uniAt
    rw [h1.1, h1.2.1, h1.2.2]
    exact quiet_late (g.hist e' he').2 (g.rows e' he').ug.2 (q.u e' he')
theorem out_late {now t : Int} {h : History} {g a : Int} (hb : hBits h) (hg : g ≤ 655350) (ht : t = now + 11796300) (q : QuietH now h g a) : (lateF h g a t).1.bits = 0 := by
  rcases q with q | ⟨h1, h2, h3⟩
  · rw [late_same (by rintro ⟨_, h4, _⟩; exact h4 q)]
    exact q
  · have hb2 : h.bits < 2 ^ 16 := by
      have := hb.2
      have e : (2 : Int) ^ 16 = 65536 := by decide
      omega
    exact late_out h2 16 h a h1 hb.1 hb2 (by
      have e : ((16 : Nat) : Int) = 16 := rfl
      rw [e]; omega)
/-- Eighteen gaps later nobody is left. -/
theorem silent_out {nif : Nat} {now t : Int} {M : TabN} (g : GoodN nif M) (q : QuietN now M) (ht : t = now + 11796300) : tickM t M = [] := by
  cases hM : tickM t M with
  | nil => rfl
  | cons e l =>
    have he : e ∈ tickM t M := by rw [hM]; exact List.mem_cons_self
    obtain ⟨e', he', hg, _⟩ := mem_tick he
    have h1 := out_late (g.hist e' he').1 (g.rows e' he').mg.2 ht (q.m e' he')
    have h2 := out_late (g.hist e' he').2 (g.rows e' he').ug.2 ht (q.u e' he')
    unfold goneN at hg
    rw [(tick_multi t e'.2).1, (tick_uni t e'.2).1, h1, h2] at hg
    exact absurd hg (by decide)
theorem tick_most {most : Int} {M : TabN} (h : (M.length : Int) ≤ most) (now : Int) : ((tickM now M).length : Int) ≤ most := by
  have := tickM_len now M
  omega

set_option maxHeartbeats 1600000 in
theorem law_silent (F : Fr) {a : Option Addr} {c : Nat} {ifs : List IfConf} (hi0 : ifs.length ≤ 9223372036854775807) (ha : ArgSl F a 43 IfConf.enc ifs) (hcap : ifs.length ≤ c) {a2 : Option Addr} {c2 : Nat} {xs : List Law13Act} (hx0 : xs.length ≤ 9223372036854775807) (ha2 : ArgSl F a2 87 Law13Act.enc xs) (hw2 : ∀ x ∈ xs, ok41 F x) (most : Int)  : Spec Try.prog 3 #[.int .i64 most, .slice a ifs.length c, .slice a2 xs.length c2] [] F (fun v S => v = .bool true ∧ S = []) := by
 obtain ⟨O, hO⟩ := Holds.of hw2
 refine Spec.intro (N := 99) (args := [.int .i64 most, .slice a ifs.length c, .slice a2 xs.length c2]) Try.func3 rfl rfl (by simp) ?_
 refine Run.seq fun k1 hk1 => ?_
 refine Run.region ?_
 show Sq _ _ _ [0] _ _ _ _
 refine Sq.quiet (i := 0) rfl (Want.none rfl) rfl (ltN rfl) (QP.assign rfl rfl).read ?_
 refine Sq.nil ?_
 refine hk1 _ _ ?_
 refine Run.seq fun k2 hk2 => ?_
 refine Run.seq fun k3 hk3 => ?_
 refine Run.region ?_
 show Sq _ _ _ [0, 1, 2, 3, 4, 5, 6, 7, 8, 9, 10, 11] _ _ _ _
 refine Sq.quiet (i := 0) rfl (Want.none rfl) rfl (ltN rfl) (QP.move rfl rfl).read ?_
 refine Sq.quiet (i := 1) rfl (Want.none rfl) rfl (ltN rfl) (QP.move rfl rfl).read ?_
 refine Sq.eff (i := 2) rfl (Want.none rfl) rfl (ltN rfl) (EF.call rfl ce8 rfl Takes.nil (fun F' hle hr => right_spec F' hi0 (ha.mono hle) hcap hx0 (ha2.mono hle))) ?_
 rintro _ _ ⟨_, ⟨r, rfl, hright, rfl⟩, rfl⟩
 refine J.app ?_
 refine J.caseB (fun c12 => ?_) (fun c12 => ?_)
 ·skip
  refine Sq.quiet (i := 3) rfl (Want.none rfl) rfl (ltN rfl) (QP.not rfl rfl).read ?_
  refine Sq.quiet (i := 4) rfl (Want.none rfl) rfl (ltN rfl) (QP.move rfl rfl).read ?_
  refine Sq.quiet (i := 5) rfl (Want.yes rfl rfl rfl rfl) rfl (ltN rfl) (QP.move rfl rfl).read ?_
  refine Sq.quiet (i := 6) rfl (Want.yes rfl rfl rfl rfl) rfl (ltN rfl) (QP.lss rfl rfl rfl).read ?_
  refine J.caseD (fun c16 => ?_) (fun c16 => ?_)
  ·skip
   refine Sq.quiet (i := 7) rfl (Want.none rfl) rfl (ltN rfl) (QP.pick_f rfl rfl rfl).read ?_
   refine Sq.quiet (i := 8) rfl (Want.none rfl) rfl (ltN rfl) (QP.move rfl rfl).read ?_
   refine Sq.skip (i := 9) rfl (Want.no rfl rfl rfl rfl) rfl (ltN rfl) ?_
   refine Sq.skip (i := 10) rfl (Want.no rfl rfl rfl rfl) rfl (ltN rfl) ?_
   refine Sq.quiet (i := 11) rfl (Want.none rfl) rfl (ltN rfl) (QP.pick_t rfl rfl rfl).read ?_
   refine Sq.nil ?_
   refine hk3 _ _ ?_
   refine Run.cond_t rfl ?_
   refine Run.seq fun k4 hk4 => ?_
   refine Run.region ?_
   show Sq _ _ _ [0, 1] _ _ _ _
   refine Sq.eff (i := 0) rfl (Want.none rfl) rfl (ltN rfl) (EF.call rfl ce9 rfl Takes.nil (fun F' hle hr => live_spec F')) ?_
   rintro _ _ ⟨_, ⟨rfl, rfl⟩, rfl⟩
   refine J.app ?_
   refine Sq.quiet (i := 1) rfl (Want.none rfl) rfl (ltN rfl) (QP.assign rfl rfl).read ?_
   refine Sq.nil ?_
   refine hk4 _ _ ?_
   refine Run.ret ?_
   exact J.ends (res_tmp rfl rfl) Takes.nil ⟨rfl, rfl⟩
  ·skip
   refine Sq.quiet (i := 7) rfl (Want.none rfl) rfl (ltN rfl) (QP.pick_f rfl rfl rfl).read ?_
   refine Sq.quiet (i := 8) rfl (Want.none rfl) rfl (ltN rfl) (QP.move rfl rfl).read ?_
   refine Sq.quiet (i := 9) rfl (Want.yes rfl rfl rfl rfl) rfl (ltN rfl) (QP.move rfl rfl).read ?_
   refine Sq.quiet (i := 10) rfl (Want.yes rfl rfl rfl rfl) rfl (ltN rfl) (QP.gtr rfl rfl rfl).read ?_
   refine J.caseD (fun c20 => ?_) (fun c20 => ?_)
   ·skip
    refine Sq.quiet (i := 11) rfl (Want.none rfl) rfl (ltN rfl) (QP.pick_f rfl rfl rfl).read ?_
    refine Sq.nil ?_
    refine hk3 _ _ ?_
    refine Run.cond_t rfl ?_
    refine Run.seq fun k5 hk5 => ?_
    refine Run.region ?_
    show Sq _ _ _ [0, 1] _ _ _ _
    refine Sq.eff (i := 0) rfl (Want.none rfl) rfl (ltN rfl) (EF.call rfl ce9 rfl Takes.nil (fun F' hle hr => live_spec F')) ?_
    rintro _ _ ⟨_, ⟨rfl, rfl⟩, rfl⟩
    refine J.app ?_
    refine Sq.quiet (i := 1) rfl (Want.none rfl) rfl (ltN rfl) (QP.assign rfl rfl).read ?_
    refine Sq.nil ?_
    refine hk5 _ _ ?_
    refine Run.ret ?_
    exact J.ends (res_tmp rfl rfl) Takes.nil ⟨rfl, rfl⟩
   ·skip
    refine Sq.quiet (i := 11) rfl (Want.none rfl) rfl (ltN rfl) (QP.pick_f rfl rfl rfl).read ?_
    refine Sq.nil ?_
    refine hk3 _ _ ?_
    refine Run.cond_f rfl ?_
    refine Run.skip ?_
    refine hk2 _ _ ?_
    refine Run.seq fun k6 hk6 => ?_
    refine Run.region ?_
    show Sq _ _ _ [0, 1, 2, 3] _ _ _ _
    obtain ⟨hi8, hifs, hx120, hgap⟩ := hright c12
    refine Sq.quiet (i := 0) rfl (Want.none rfl) rfl (ltN rfl) (QP.move rfl rfl).read ?_
    refine Sq.quiet (i := 1) rfl (Want.none rfl) rfl (ltN rfl) (QP.move rfl rfl).read ?_
    refine Sq.eff (i := 2) rfl (Want.none rfl) rfl (ltN rfl) (EF.call rfl ce10 rfl Takes.nil (fun F' hle hr => newA F' most (xs := ifs) (by omega) (ha.mono hle))) ?_
    rintro _ _ ⟨_, ⟨tb, rfl, rfl⟩, rfl⟩
    refine J.app ?_
    refine Sq.quiet (i := 3) rfl (Want.none rfl) rfl (ltN rfl) (QP.assign rfl rfl).read ?_
    refine Sq.nil ?_
    refine hk6 _ _ ?_
    refine Run.seq fun k7 hk7 => ?_
    refine Run.seq fun k8 hk8 => ?_
    refine Run.region ?_
    show Sq _ _ _ [0, 1] _ _ _ _
    refine Sq.quiet (i := 0) rfl (Want.none rfl) rfl (ltN rfl) (QP.move rfl rfl).read ?_
    refine Sq.quiet (i := 1) rfl (Want.none rfl) rfl (ltN rfl) (QP.ptr_eq_nil rfl rfl rfl Try.underlying26).read ?_
    refine Sq.nil ?_
    refine hk8 _ _ ?_
    refine Run.cond_f rfl ?_
    refine Run.skip ?_
    refine hk7 _ _ ?_
    refine Run.seq fun k9 hk9 => ?_
    refine Run.region ?_
    show Sq _ _ _ [0] _ _ _ _
    refine Sq.quiet (i := 0) rfl (Want.none rfl) rfl (ltN rfl) (QP.assign rfl rfl).read ?_
    refine Sq.nil ?_
    refine hk9 _ _ ?_
    refine Run.seq fun k10 hk10 => ?_
    refine Run.seq fun k11 hk11 => ?_
    refine Run.region ?_
    show Sq _ _ _ [0] _ _ _ _
    refine Sq.quiet (i := 0) rfl (Want.none rfl) rfl (ltN rfl) (QP.assign rfl rfl).read ?_
    refine Sq.nil ?_
    refine hk11 _ _ ?_
    refine Run.block ?_
    refine Run.loop3 (fun (i : Nat) (now : Int) (M : TabN) => i ≤ xs.length ∧ 0 ≤ now ∧ now ≤ i * 1073741824 ∧ GoodN ifs.length M ∧ QuietN now M ∧ (M.length : Int) ≤ most) (fun i now M => .cons 0 (.int .i64 most) (.cons 1 (.slice a ifs.length c) (.cons 2 (.slice a2 xs.length c2) (.cons 7 (fp tb) (.cons 8 (.int .i64 now) (.cons 9 (.int .i64 i) (.nil))))))) (fun i now M => [NA tb most ifs M]) (fun i now M => xs.length - i) (0) (0) ([]) (⟨Nat.zero_le _, Int.le_refl _, by omega, GoodN.nil _, QuietN.nil _, by simp; omega⟩) ?_ ?_
    ·exact fun _ j => J.envJ (J.keep (.cons (by repeat constructor) Takes.nil) j) ⟨rfl, rfl, rfl, rfl, rfl, rfl, trivial⟩
    rintro i now M ⟨hile, hn0, hn1, hgood, hq, hMm⟩ kl12 hl12
    refine Run.seq fun k13 hk13 => ?_
    refine Run.seq fun k14 hk14 => ?_
    refine Run.region ?_
    show Sq _ _ _ [0, 1, 2, 3] _ _ _ _
    refine Sq.quiet (i := 0) rfl (Want.none rfl) rfl (ltN rfl) (QP.move rfl rfl).read ?_
    refine Sq.quiet (i := 1) rfl (Want.none rfl) rfl (ltN rfl) (QP.move rfl rfl).read ?_
    refine Sq.quiet (i := 2) rfl (Want.none rfl) rfl (ltN rfl) (QP.len rfl rfl rfl Try.underlying23).read ?_
    refine Sq.quiet (i := 3) rfl (Want.none rfl) rfl (ltN rfl) (QP.lss rfl rfl rfl).read ?_
    refine J.caseD (fun c31 => ?_) (fun c31 => ?_)
    ·skip
     refine Sq.nil ?_
     refine hk14 _ _ ?_
     refine Run.cond_t rfl ?_
     refine Run.skip ?_
     refine hk13 _ _ ?_
     refine Run.seq fun k15 hk15 => ?_
     refine Run.block ?_
     refine Run.seq fun k16 hk16 => ?_
     refine Run.region ?_
     show Sq _ _ _ [0, 1, 2, 3, 4, 5, 6, 7] _ _ _ _
     obtain ⟨x, hj⟩ : ∃ x, xs[i]? = some x := ⟨_, List.getElem?_eq_getElem (by omega)⟩
     obtain ⟨b1, o1, hax, hs2⟩ := ha2.get (by omega)
     have hxm := List.mem_of_getElem? hj
     obtain ⟨hg0, hg1, hg2⟩ := hgap x hxm
     obtain ⟨hxw, hxn, hxa⟩ := hO x hxm
     subst hax
     refine Sq.quiet (i := 0) rfl (Want.none rfl) rfl (ltN rfl) (QP.move rfl rfl).read ?_
     refine Sq.quiet (i := 1) rfl (Want.none rfl) rfl (ltN rfl) (QP.move rfl rfl).read ?_
     refine Sq.quiet (i := 2) rfl (Want.none rfl) rfl (ltN rfl) (QP.move rfl rfl).read ?_
     refine Sq.quiet (i := 3) rfl (Want.none rfl) rfl (ltN rfl) (QP.indexAddr rfl rfl rfl Try.underlying23 z41 (by first | omega | (simp <;> omega)) (by first | omega | (simp <;> omega))).read ?_
     refine Sq.quiet (i := 4) rfl (Want.none rfl) rfl (ltN rfl) (QP.fieldAddr rfl rfl f41_1).read ?_
     refine Sq.quiet (i := 5) rfl (Want.none rfl) rfl (ltN rfl) (QR.loadSlF1 rfl rfl g3 Law13Act.enc_len (hs2 _) hj (Law13Act.sub_gap _)) ?_
     refine Sq.quiet (i := 6) rfl (Want.none rfl) rfl (ltN rfl) (QP.add64 rfl rfl rfl (by first | omega | (simp <;> omega)) (by first | omega | (simp <;> omega))).read ?_
     refine Sq.quiet (i := 7) rfl (Want.none rfl) rfl (ltN rfl) (QP.assign rfl rfl).read ?_
     refine Sq.nil ?_
     refine hk16 _ _ ?_
     refine Run.seq fun k17 hk17 => ?_
     refine Run.seq fun k18 hk18 => ?_
     refine Run.region ?_
     show Sq _ _ _ [0, 1, 2, 3, 4, 5, 6, 7, 8, 9, 10, 11, 12, 13, 14] _ _ _ _
     refine Sq.quiet (i := 0) rfl (Want.none rfl) rfl (ltN rfl) (QP.move rfl rfl).read ?_
     refine Sq.quiet (i := 1) rfl (Want.none rfl) rfl (ltN rfl) (QP.move rfl rfl).read ?_
     refine Sq.quiet (i := 2) rfl (Want.none rfl) rfl (ltN rfl) (QP.indexAddr rfl rfl rfl Try.underlying23 z41 (by first | omega | (simp <;> omega)) (by first | omega | (simp <;> omega))).read ?_
     refine Sq.quiet (i := 3) rfl (Want.none rfl) rfl (ltN rfl) (QP.fieldAddr rfl rfl f41_0).read ?_
     refine Sq.quiet (i := 4) rfl (Want.none rfl) rfl (ltN rfl) (QR.loadSlF1 rfl rfl g3 Law13Act.enc_len (hs2 _) hj (Law13Act.sub_kind _)) ?_
     refine Sq.quiet (i := 5) rfl (Want.none rfl) rfl (ltN rfl) (QP.eql rfl rfl rfl).read ?_
     refine J.caseD (fun c46 => ?_) (fun c46 => ?_)
     ·skip
      refine Sq.quiet (i := 6) rfl (Want.none rfl) rfl (ltN rfl) (QP.move rfl rfl).read ?_
      refine Sq.quiet (i := 7) rfl (Want.yes rfl rfl rfl rfl) rfl (ltN rfl) (QP.move rfl rfl).read ?_
      refine Sq.quiet (i := 8) rfl (Want.yes rfl rfl rfl rfl) rfl (ltN rfl) (QP.move rfl rfl).read ?_
      refine Sq.quiet (i := 9) rfl (Want.yes rfl rfl rfl rfl) rfl (ltN rfl) (QP.indexAddr rfl rfl rfl Try.underlying23 z41 (by first | omega | (simp <;> omega)) (by first | omega | (simp <;> omega))).read ?_
      refine Sq.quiet (i := 10) rfl (Want.yes rfl rfl rfl rfl) rfl (ltN rfl) (QP.fieldAddr rfl rfl f41_4).read ?_
      refine Sq.quiet (i := 11) rfl (Want.yes rfl rfl rfl rfl) rfl (ltN rfl) (QP.fieldAddr rfl rfl f39_2).read ?_
      refine Sq.quiet (i := 12) rfl (Want.yes rfl rfl rfl rfl) rfl (ltN rfl) (QR.loadSlF1 rfl rfl g30 Law13Act.enc_len (hs2 _) hj ((Law13Act.sub_h _).trans (Tlv.sub_interval _))) ?_
      refine Sq.quiet (i := 13) rfl (Want.yes rfl rfl rfl rfl) rfl (ltN rfl) (QP.gtr rfl rfl rfl).read ?_
      refine J.caseD (fun c54 => ?_) (fun c54 => ?_)
      ·skip
       refine Sq.quiet (i := 14) rfl (Want.none rfl) rfl (ltN rfl) (QP.pick_t rfl rfl rfl).read ?_
       refine Sq.nil ?_
       refine hk18 _ _ ?_
       refine Run.cond_t rfl ?_
       refine Run.regionD (M := [0, 0, 0, 0, 12, 28, 60, 0, 0, 384, 896, 1920, 0, 0, 12288, 28672, 61440, 131071]) (q := 131071) (r := 67648) (by kernel_rfl) ?_
       refine Dw.pure (i := 0) rfl (by kernel_rfl) (Want.none rfl) rfl (ltN rfl) (QP.move rfl rfl) ?_
       refine Dw.pure (i := 1) rfl (by kernel_rfl) (Want.none rfl) rfl (ltN rfl) (QP.move rfl rfl) ?_
       refine Dw.pure (i := 2) rfl (by kernel_rfl) (Want.none rfl) rfl (ltN rfl) (QP.move rfl rfl) ?_
       refine Dw.pure (i := 3) rfl (by kernel_rfl) (Want.none rfl) rfl (ltN rfl) (QP.move rfl rfl) ?_
       refine Dw.pure (i := 4) rfl (by kernel_rfl) (Want.none rfl) rfl (ltN rfl) (QP.indexAddr rfl rfl rfl Try.underlying23 z41 (by first | omega | (simp <;> omega)) (by first | omega | (simp <;> omega))) ?_
       refine Dw.pure (i := 5) rfl (by kernel_rfl) (Want.none rfl) rfl (ltN rfl) (QP.fieldAddr rfl rfl f41_2) ?_
       refine Dw.read (i := 6) rfl (by kernel_rfl) (Want.none rfl) rfl (ltN rfl) (QR.loadSlF1 rfl rfl g3 Law13Act.enc_len (hs2 _) hj (Law13Act.sub_if_ _)) ?_
       refine Dw.pure (i := 7) rfl (by kernel_rfl) (Want.none rfl) rfl (ltN rfl) (QP.move rfl rfl) ?_
       refine Dw.pure (i := 8) rfl (by kernel_rfl) (Want.none rfl) rfl (ltN rfl) (QP.move rfl rfl) ?_
       refine Dw.pure (i := 9) rfl (by kernel_rfl) (Want.none rfl) rfl (ltN rfl) (QP.indexAddr rfl rfl rfl Try.underlying23 z41 (by first | omega | (simp <;> omega)) (by first | omega | (simp <;> omega))) ?_
       refine Dw.pure (i := 10) rfl (by kernel_rfl) (Want.none rfl) rfl (ltN rfl) (QP.fieldAddr rfl rfl f41_3) ?_
       refine Dw.read (i := 11) rfl (by kernel_rfl) (Want.none rfl) rfl (ltN rfl) (QR.loadSlF rfl rfl g29 Law13Act.enc_len (hs2 _) hj (Law13Act.sub_from_ _)) ?_
       refine Dw.pure (i := 12) rfl (by kernel_rfl) (Want.none rfl) rfl (ltN rfl) (QP.move rfl rfl) ?_
       refine Dw.pure (i := 13) rfl (by kernel_rfl) (Want.none rfl) rfl (ltN rfl) (QP.move rfl rfl) ?_
       refine Dw.pure (i := 14) rfl (by kernel_rfl) (Want.none rfl) rfl (ltN rfl) (QP.indexAddr rfl rfl rfl Try.underlying23 z41 (by first | omega | (simp <;> omega)) (by first | omega | (simp <;> omega))) ?_
       refine Dw.pure (i := 15) rfl (by kernel_rfl) (Want.none rfl) rfl (ltN rfl) (QP.fieldAddr rfl rfl f41_4) ?_
       refine Dw.read (i := 16) rfl (by kernel_rfl) (Want.none rfl) rfl (ltN rfl) (QR.loadSlF rfl rfl g39 Law13Act.enc_len (hs2 _) hj (Law13Act.sub_h _)) ?_
       refine Dw.eff (i := 17) (by kernel_rfl) (by kernel_rfl) ?_
       refine One.mk (o := _) (l := []) rfl (by kernel_rfl) (Want.none rfl) rfl (ltN rfl) (EF.call rfl ce11 rfl (.cons (by repeat constructor) Takes.nil) (fun F' hle hr => helloA F' (most := most) hgood (now + x.gap) (by omega) (by omega) x.if_ x.from_ x.h hxw (O x) hxn (by omega) (hxa.mono hle))) (by kernel_rfl) ?_
       rintro _ _ ⟨_, ⟨rfl, rfl⟩, rfl⟩
       refine ⟨fun _ h => (by cases h), ?_⟩
       refine J.app ?_
       refine Dw.nil (by kernel_rfl) ?_
       refine hk17 _ _ ?_
       refine Run.seq fun k19 hk19 => ?_
       refine Run.seq fun k20 hk20 => ?_
       refine Run.region ?_
       show Sq _ _ _ [0, 1, 2, 3, 4, 5] _ _ _ _
       refine Sq.quiet (i := 0) rfl (Want.none rfl) rfl (ltN rfl) (QP.move rfl rfl).read ?_
       refine Sq.quiet (i := 1) rfl (Want.none rfl) rfl (ltN rfl) (QP.move rfl rfl).read ?_
       refine Sq.quiet (i := 2) rfl (Want.none rfl) rfl (ltN rfl) (QP.indexAddr rfl rfl rfl Try.underlying23 z41 (by first | omega | (simp <;> omega)) (by first | omega | (simp <;> omega))).read ?_
       refine Sq.quiet (i := 3) rfl (Want.none rfl) rfl (ltN rfl) (QP.fieldAddr rfl rfl f41_0).read ?_
       refine Sq.quiet (i := 4) rfl (Want.none rfl) rfl (ltN rfl) (QR.loadSlF1 rfl rfl g3 Law13Act.enc_len (hs2 _) hj (Law13Act.sub_kind _)) ?_
       refine Sq.quiet (i := 5) rfl (Want.none rfl) rfl (ltN rfl) (QP.eql rfl rfl rfl).read ?_
       refine J.caseD (fun c79 => ?_) (fun c79 => ?_)
       ·skip
        refine Sq.nil ?_
        refine hk20 _ _ ?_
        refine Run.cond_t rfl ?_
        refine Run.region ?_
        show Sq _ _ _ [0, 1, 2] _ _ _ _
        refine Sq.quiet (i := 0) rfl (Want.none rfl) rfl (ltN rfl) (QP.move rfl rfl).read ?_
        refine Sq.quiet (i := 1) rfl (Want.none rfl) rfl (ltN rfl) (QP.move rfl rfl).read ?_
        refine Sq.eff (i := 2) rfl (Want.none rfl) rfl (ltN rfl) (EF.call rfl ce12 rfl (.cons (by repeat constructor) Takes.nil) (fun F' hle hr => tickA F' (M := (helloF ifs.length most M (now + x.gap) x.if_ x.from_ x.h (O x)).2) (good_hello hgood (by omega) _ _ hxw _) (by have := (hello_most (nif := ifs.length) hMm (now + x.gap) x.if_ x.from_ x.h (O x)); omega) (now + x.gap) (by omega) (by omega))) ?_
        rintro _ _ ⟨_, ⟨L82, hL82, rfl⟩, rfl⟩
        refine J.app ?_
        refine Sq.nil ?_
        refine hk19 _ _ ?_
        refine Run.seq fun k21 hk21 => ?_
        refine Run.region ?_
        show Sq _ _ _ [0, 1, 2, 3, 4] _ _ _ _
        refine Sq.quiet (i := 0) rfl (Want.none rfl) rfl (ltN rfl) (QP.move rfl rfl).read ?_
        refine Sq.eff (i := 1) rfl (Want.none rfl) rfl (ltN rfl) (EF.call rfl ce13 rfl (.cons (by repeat constructor) Takes.nil) (fun F' hle hr => listA F' (M := (tickM (now + x.gap) (helloF ifs.length most M (now + x.gap) x.if_ x.from_ x.h (O x)).2)) (good_tick (good_hello hgood (by omega) _ _ hxw _) _) (by have := (tick_most (hello_most (nif := ifs.length) hMm (now + x.gap) x.if_ x.from_ x.h (O x)) (now + x.gap)); omega))) ?_
        rintro v84 _ ⟨_, ⟨L84, hL84, rfl⟩, rfl⟩
        refine J.app ?_
        refine Sq.slCase (v := v84) (xs := L84) (by repeat constructor) (fun a84 c84 hv84 hh84 => ?_)
        subst hv84
        have hl84 : ((L84.length : Nat) : Int) ≤ most := by rw [hL84.length]; exact (tick_most (hello_most (nif := ifs.length) hMm (now + x.gap) x.if_ x.from_ x.h (O x)) (now + x.gap))
        refine Sq.quiet (i := 2) rfl (Want.none rfl) rfl (ltN rfl) (QP.len rfl rfl rfl Try.underlying44).read ?_
        refine Sq.quiet (i := 3) rfl (Want.none rfl) rfl (ltN rfl) (QP.move rfl rfl).read ?_
        refine Sq.quiet (i := 4) rfl (Want.none rfl) rfl (ltN rfl) (QP.gtr rfl rfl rfl).read ?_
        refine J.decF (by omega) ?_
        refine Sq.nil ?_
        refine hk21 _ _ ?_
        refine Run.cond_f rfl ?_
        refine Run.skip ?_
        refine hk15 _ _ ?_
        refine Run.region ?_
        show Sq _ _ _ [0, 1, 2] _ _ _ _
        refine Sq.quiet (i := 0) rfl (Want.none rfl) rfl (ltN rfl) (QP.move rfl rfl).read ?_
        refine Sq.quiet (i := 1) rfl (Want.none rfl) rfl (ltN rfl) (QP.add64 rfl rfl rfl (by first | omega | (simp <;> omega)) (by first | omega | (simp <;> omega))).read ?_
        refine Sq.quiet (i := 2) rfl (Want.none rfl) rfl (ltN rfl) (QP.assign rfl rfl).read ?_
        refine Sq.nil ?_
        exact J.envJ (J.keep (.cons (by repeat constructor) Takes.nil) (hl12 (i + 1) (now + x.gap) ((tickM (now + x.gap) (helloF ifs.length most M (now + x.gap) x.if_ x.from_ x.h (O x)).2)) (⟨by omega, by omega, by omega, (good_tick (good_hello hgood (by omega) _ _ hxw _) _), (quiet_tick (good_hello hgood (by omega) _ _ hxw _) (quiet_hello (hq.mono (by omega)) _ _ hxw c54 _)), (tick_most (hello_most (nif := ifs.length) hMm (now + x.gap) x.if_ x.from_ x.h (O x)) (now + x.gap))⟩) (by omega))) ⟨rfl, rfl, rfl, rfl, rfl, rfl, trivial⟩
       ·skip
        refine Sq.nil ?_
        refine hk20 _ _ ?_
        refine Run.cond_f rfl ?_
        refine Run.skip ?_
        refine hk19 _ _ ?_
        refine Run.seq fun k22 hk22 => ?_
        refine Run.region ?_
        show Sq _ _ _ [0, 1, 2, 3, 4] _ _ _ _
        refine Sq.quiet (i := 0) rfl (Want.none rfl) rfl (ltN rfl) (QP.move rfl rfl).read ?_
        refine Sq.eff (i := 1) rfl (Want.none rfl) rfl (ltN rfl) (EF.call rfl ce13 rfl (.cons (by repeat constructor) Takes.nil) (fun F' hle hr => listA F' (M := (helloF ifs.length most M (now + x.gap) x.if_ x.from_ x.h (O x)).2) (good_hello hgood (by omega) _ _ hxw _) (by have := (hello_most (nif := ifs.length) hMm (now + x.gap) x.if_ x.from_ x.h (O x)); omega))) ?_
        rintro v84 _ ⟨_, ⟨L84, hL84, rfl⟩, rfl⟩
        refine J.app ?_
        refine Sq.slCase (v := v84) (xs := L84) (by repeat constructor) (fun a84 c84 hv84 hh84 => ?_)
        subst hv84
        have hl84 : ((L84.length : Nat) : Int) ≤ most := by rw [hL84.length]; exact (hello_most (nif := ifs.length) hMm (now + x.gap) x.if_ x.from_ x.h (O x))
        refine Sq.quiet (i := 2) rfl (Want.none rfl) rfl (ltN rfl) (QP.len rfl rfl rfl Try.underlying44).read ?_
        refine Sq.quiet (i := 3) rfl (Want.none rfl) rfl (ltN rfl) (QP.move rfl rfl).read ?_
        refine Sq.quiet (i := 4) rfl (Want.none rfl) rfl (ltN rfl) (QP.gtr rfl rfl rfl).read ?_
        refine J.decF (by omega) ?_
        refine Sq.nil ?_
        refine hk22 _ _ ?_
        refine Run.cond_f rfl ?_
        refine Run.skip ?_
        refine hk15 _ _ ?_
        refine Run.region ?_
        show Sq _ _ _ [0, 1, 2] _ _ _ _
        refine Sq.quiet (i := 0) rfl (Want.none rfl) rfl (ltN rfl) (QP.move rfl rfl).read ?_
        refine Sq.quiet (i := 1) rfl (Want.none rfl) rfl (ltN rfl) (QP.add64 rfl rfl rfl (by first | omega | (simp <;> omega)) (by first | omega | (simp <;> omega))).read ?_
        refine Sq.quiet (i := 2) rfl (Want.none rfl) rfl (ltN rfl) (QP.assign rfl rfl).read ?_
        refine Sq.nil ?_
        exact J.envJ (J.keep (.cons (by repeat constructor) Takes.nil) (hl12 (i + 1) (now + x.gap) ((helloF ifs.length most M (now + x.gap) x.if_ x.from_ x.h (O x)).2) (⟨by omega, by omega, by omega, (good_hello hgood (by omega) _ _ hxw _), (quiet_hello (hq.mono (by omega)) _ _ hxw c54 _), (hello_most (nif := ifs.length) hMm (now + x.gap) x.if_ x.from_ x.h (O x))⟩) (by omega))) ⟨rfl, rfl, rfl, rfl, rfl, rfl, trivial⟩
      ·skip
       refine Sq.quiet (i := 14) rfl (Want.none rfl) rfl (ltN rfl) (QP.pick_t rfl rfl rfl).read ?_
       refine Sq.nil ?_
       refine hk18 _ _ ?_
       refine Run.cond_f rfl ?_
       refine Run.skip ?_
       refine hk17 _ _ ?_
       refine Run.seq fun k23 hk23 => ?_
       refine Run.seq fun k24 hk24 => ?_
       refine Run.region ?_
       show Sq _ _ _ [0, 1, 2, 3, 4, 5] _ _ _ _
       refine Sq.quiet (i := 0) rfl (Want.none rfl) rfl (ltN rfl) (QP.move rfl rfl).read ?_
       refine Sq.quiet (i := 1) rfl (Want.none rfl) rfl (ltN rfl) (QP.move rfl rfl).read ?_
       refine Sq.quiet (i := 2) rfl (Want.none rfl) rfl (ltN rfl) (QP.indexAddr rfl rfl rfl Try.underlying23 z41 (by first | omega | (simp <;> omega)) (by first | omega | (simp <;> omega))).read ?_
       refine Sq.quiet (i := 3) rfl (Want.none rfl) rfl (ltN rfl) (QP.fieldAddr rfl rfl f41_0).read ?_
       refine Sq.quiet (i := 4) rfl (Want.none rfl) rfl (ltN rfl) (QR.loadSlF1 rfl rfl g3 Law13Act.enc_len (hs2 _) hj (Law13Act.sub_kind _)) ?_
       refine Sq.quiet (i := 5) rfl (Want.none rfl) rfl (ltN rfl) (QP.eql rfl rfl rfl).read ?_
       refine J.caseD (fun c79 => ?_) (fun c79 => ?_)
       ·skip
        refine Sq.nil ?_
        refine hk24 _ _ ?_
        refine Run.cond_t rfl ?_
        refine Run.region ?_
        show Sq _ _ _ [0, 1, 2] _ _ _ _
        refine Sq.quiet (i := 0) rfl (Want.none rfl) rfl (ltN rfl) (QP.move rfl rfl).read ?_
        refine Sq.quiet (i := 1) rfl (Want.none rfl) rfl (ltN rfl) (QP.move rfl rfl).read ?_
        refine Sq.eff (i := 2) rfl (Want.none rfl) rfl (ltN rfl) (EF.call rfl ce12 rfl (.cons (by repeat constructor) Takes.nil) (fun F' hle hr => tickA F' (M := M) hgood (by have := hMm; omega) (now + x.gap) (by omega) (by omega))) ?_
        rintro _ _ ⟨_, ⟨L82, hL82, rfl⟩, rfl⟩
        refine J.app ?_
        refine Sq.nil ?_
        refine hk23 _ _ ?_
        refine Run.seq fun k25 hk25 => ?_
        refine Run.region ?_
        show Sq _ _ _ [0, 1, 2, 3, 4] _ _ _ _
        refine Sq.quiet (i := 0) rfl (Want.none rfl) rfl (ltN rfl) (QP.move rfl rfl).read ?_
        refine Sq.eff (i := 1) rfl (Want.none rfl) rfl (ltN rfl) (EF.call rfl ce13 rfl (.cons (by repeat constructor) Takes.nil) (fun F' hle hr => listA F' (M := (tickM (now + x.gap) M)) (good_tick hgood _) (by have := (tick_most hMm (now + x.gap)); omega))) ?_
        rintro v84 _ ⟨_, ⟨L84, hL84, rfl⟩, rfl⟩
        refine J.app ?_
        refine Sq.slCase (v := v84) (xs := L84) (by repeat constructor) (fun a84 c84 hv84 hh84 => ?_)
        subst hv84
        have hl84 : ((L84.length : Nat) : Int) ≤ most := by rw [hL84.length]; exact (tick_most hMm (now + x.gap))
        refine Sq.quiet (i := 2) rfl (Want.none rfl) rfl (ltN rfl) (QP.len rfl rfl rfl Try.underlying44).read ?_
        refine Sq.quiet (i := 3) rfl (Want.none rfl) rfl (ltN rfl) (QP.move rfl rfl).read ?_
        refine Sq.quiet (i := 4) rfl (Want.none rfl) rfl (ltN rfl) (QP.gtr rfl rfl rfl).read ?_
        refine J.decF (by omega) ?_
        refine Sq.nil ?_
        refine hk25 _ _ ?_
        refine Run.cond_f rfl ?_
        refine Run.skip ?_
        refine hk15 _ _ ?_
        refine Run.region ?_
        show Sq _ _ _ [0, 1, 2] _ _ _ _
        refine Sq.quiet (i := 0) rfl (Want.none rfl) rfl (ltN rfl) (QP.move rfl rfl).read ?_
        refine Sq.quiet (i := 1) rfl (Want.none rfl) rfl (ltN rfl) (QP.add64 rfl rfl rfl (by first | omega | (simp <;> omega)) (by first | omega | (simp <;> omega))).read ?_
        refine Sq.quiet (i := 2) rfl (Want.none rfl) rfl (ltN rfl) (QP.assign rfl rfl).read ?_
        refine Sq.nil ?_
        exact J.envJ (J.keep (.cons (by repeat constructor) Takes.nil) (hl12 (i + 1) (now + x.gap) ((tickM (now + x.gap) M)) (⟨by omega, by omega, by omega, (good_tick hgood _), (quiet_tick hgood (hq.mono (show now ≤ now + x.gap by omega))), (tick_most hMm (now + x.gap))⟩) (by omega))) ⟨rfl, rfl, rfl, rfl, rfl, rfl, trivial⟩
       ·skip
        refine Sq.nil ?_
        refine hk24 _ _ ?_
        refine Run.cond_f rfl ?_
        refine Run.skip ?_
        refine hk23 _ _ ?_
        refine Run.seq fun k26 hk26 => ?_
        refine Run.region ?_
        show Sq _ _ _ [0, 1, 2, 3, 4] _ _ _ _
        refine Sq.quiet (i := 0) rfl (Want.none rfl) rfl (ltN rfl) (QP.move rfl rfl).read ?_
        refine Sq.eff (i := 1) rfl (Want.none rfl) rfl (ltN rfl) (EF.call rfl ce13 rfl (.cons (by repeat constructor) Takes.nil) (fun F' hle hr => listA F' (M := M) hgood (by have := hMm; omega))) ?_
        rintro v84 _ ⟨_, ⟨L84, hL84, rfl⟩, rfl⟩
        refine J.app ?_
        refine Sq.slCase (v := v84) (xs := L84) (by repeat constructor) (fun a84 c84 hv84 hh84 => ?_)
        subst hv84
        have hl84 : ((L84.length : Nat) : Int) ≤ most := by rw [hL84.length]; exact hMm
        refine Sq.quiet (i := 2) rfl (Want.none rfl) rfl (ltN rfl) (QP.len rfl rfl rfl Try.underlying44).read ?_
        refine Sq.quiet (i := 3) rfl (Want.none rfl) rfl (ltN rfl) (QP.move rfl rfl).read ?_
        refine Sq.quiet (i := 4) rfl (Want.none rfl) rfl (ltN rfl) (QP.gtr rfl rfl rfl).read ?_
        refine J.decF (by omega) ?_
        refine Sq.nil ?_
        refine hk26 _ _ ?_
        refine Run.cond_f rfl ?_
        refine Run.skip ?_
        refine hk15 _ _ ?_
        refine Run.region ?_
        show Sq _ _ _ [0, 1, 2] _ _ _ _
        refine Sq.quiet (i := 0) rfl (Want.none rfl) rfl (ltN rfl) (QP.move rfl rfl).read ?_
        refine Sq.quiet (i := 1) rfl (Want.none rfl) rfl (ltN rfl) (QP.add64 rfl rfl rfl (by first | omega | (simp <;> omega)) (by first | omega | (simp <;> omega))).read ?_
        refine Sq.quiet (i := 2) rfl (Want.none rfl) rfl (ltN rfl) (QP.assign rfl rfl).read ?_
        refine Sq.nil ?_
        exact J.envJ (J.keep (.cons (by repeat constructor) Takes.nil) (hl12 (i + 1) (now + x.gap) (M) (⟨by omega, by omega, by omega, hgood, (hq.mono (show now ≤ now + x.gap by omega)), hMm⟩) (by omega))) ⟨rfl, rfl, rfl, rfl, rfl, rfl, trivial⟩
     ·skip
      refine Sq.quiet (i := 6) rfl (Want.none rfl) rfl (ltN rfl) (QP.move rfl rfl).read ?_
      refine Sq.skip (i := 7) rfl (Want.no rfl rfl rfl rfl) rfl (ltN rfl) ?_
      refine Sq.skip (i := 8) rfl (Want.no rfl rfl rfl rfl) rfl (ltN rfl) ?_
      refine Sq.skip (i := 9) rfl (Want.no rfl rfl rfl rfl) rfl (ltN rfl) ?_
      refine Sq.skip (i := 10) rfl (Want.no rfl rfl rfl rfl) rfl (ltN rfl) ?_
      refine Sq.skip (i := 11) rfl (Want.no rfl rfl rfl rfl) rfl (ltN rfl) ?_
      refine Sq.skip (i := 12) rfl (Want.no rfl rfl rfl rfl) rfl (ltN rfl) ?_
      refine Sq.skip (i := 13) rfl (Want.no rfl rfl rfl rfl) rfl (ltN rfl) ?_
      refine Sq.quiet (i := 14) rfl (Want.none rfl) rfl (ltN rfl) (QP.pick_f rfl rfl rfl).read ?_
      refine Sq.nil ?_
      refine hk18 _ _ ?_
      refine Run.cond_f rfl ?_
      refine Run.skip ?_
      refine hk17 _ _ ?_
      refine Run.seq fun k27 hk27 => ?_
      refine Run.seq fun k28 hk28 => ?_
      refine Run.region ?_
      show Sq _ _ _ [0, 1, 2, 3, 4, 5] _ _ _ _
      refine Sq.quiet (i := 0) rfl (Want.none rfl) rfl (ltN rfl) (QP.move rfl rfl).read ?_
      refine Sq.quiet (i := 1) rfl (Want.none rfl) rfl (ltN rfl) (QP.move rfl rfl).read ?_
      refine Sq.quiet (i := 2) rfl (Want.none rfl) rfl (ltN rfl) (QP.indexAddr rfl rfl rfl Try.underlying23 z41 (by first | omega | (simp <;> omega)) (by first | omega | (simp <;> omega))).read ?_
      refine Sq.quiet (i := 3) rfl (Want.none rfl) rfl (ltN rfl) (QP.fieldAddr rfl rfl f41_0).read ?_
      refine Sq.quiet (i := 4) rfl (Want.none rfl) rfl (ltN rfl) (QR.loadSlF1 rfl rfl g3 Law13Act.enc_len (hs2 _) hj (Law13Act.sub_kind _)) ?_
      refine Sq.quiet (i := 5) rfl (Want.none rfl) rfl (ltN rfl) (QP.eql rfl rfl rfl).read ?_
      refine J.caseD (fun c79 => ?_) (fun c79 => ?_)
      ·skip
       refine Sq.nil ?_
       refine hk28 _ _ ?_
       refine Run.cond_t rfl ?_
       refine Run.region ?_
       show Sq _ _ _ [0, 1, 2] _ _ _ _
       refine Sq.quiet (i := 0) rfl (Want.none rfl) rfl (ltN rfl) (QP.move rfl rfl).read ?_
       refine Sq.quiet (i := 1) rfl (Want.none rfl) rfl (ltN rfl) (QP.move rfl rfl).read ?_
       refine Sq.eff (i := 2) rfl (Want.none rfl) rfl (ltN rfl) (EF.call rfl ce12 rfl (.cons (by repeat constructor) Takes.nil) (fun F' hle hr => tickA F' (M := M) hgood (by have := hMm; omega) (now + x.gap) (by omega) (by omega))) ?_
       rintro _ _ ⟨_, ⟨L82, hL82, rfl⟩, rfl⟩
       refine J.app ?_
       refine Sq.nil ?_
       refine hk27 _ _ ?_
       refine Run.seq fun k29 hk29 => ?_
       refine Run.region ?_
       show Sq _ _ _ [0, 1, 2, 3, 4] _ _ _ _
       refine Sq.quiet (i := 0) rfl (Want.none rfl) rfl (ltN rfl) (QP.move rfl rfl).read ?_
       refine Sq.eff (i := 1) rfl (Want.none rfl) rfl (ltN rfl) (EF.call rfl ce13 rfl (.cons (by repeat constructor) Takes.nil) (fun F' hle hr => listA F' (M := (tickM (now + x.gap) M)) (good_tick hgood _) (by have := (tick_most hMm (now + x.gap)); omega))) ?_
       rintro v84 _ ⟨_, ⟨L84, hL84, rfl⟩, rfl⟩
       refine J.app ?_
       refine Sq.slCase (v := v84) (xs := L84) (by repeat constructor) (fun a84 c84 hv84 hh84 => ?_)
       subst hv84
       have hl84 : ((L84.length : Nat) : Int) ≤ most := by rw [hL84.length]; exact (tick_most hMm (now + x.gap))
       refine Sq.quiet (i := 2) rfl (Want.none rfl) rfl (ltN rfl) (QP.len rfl rfl rfl Try.underlying44).read ?_
       refine Sq.quiet (i := 3) rfl (Want.none rfl) rfl (ltN rfl) (QP.move rfl rfl).read ?_
       refine Sq.quiet (i := 4) rfl (Want.none rfl) rfl (ltN rfl) (QP.gtr rfl rfl rfl).read ?_
       refine J.decF (by omega) ?_
       refine Sq.nil ?_
       refine hk29 _ _ ?_
       refine Run.cond_f rfl ?_
       refine Run.skip ?_
       refine hk15 _ _ ?_
       refine Run.region ?_
       show Sq _ _ _ [0, 1, 2] _ _ _ _
       refine Sq.quiet (i := 0) rfl (Want.none rfl) rfl (ltN rfl) (QP.move rfl rfl).read ?_
       refine Sq.quiet (i := 1) rfl (Want.none rfl) rfl (ltN rfl) (QP.add64 rfl rfl rfl (by first | omega | (simp <;> omega)) (by first | omega | (simp <;> omega))).read ?_
       refine Sq.quiet (i := 2) rfl (Want.none rfl) rfl (ltN rfl) (QP.assign rfl rfl).read ?_
       refine Sq.nil ?_
       exact J.envJ (J.keep (.cons (by repeat constructor) Takes.nil) (hl12 (i + 1) (now + x.gap) ((tickM (now + x.gap) M)) (⟨by omega, by omega, by omega, (good_tick hgood _), (quiet_tick hgood (hq.mono (show now ≤ now + x.gap by omega))), (tick_most hMm (now + x.gap))⟩) (by omega))) ⟨rfl, rfl, rfl, rfl, rfl, rfl, trivial⟩
      ·skip
       refine Sq.nil ?_
       refine hk28 _ _ ?_
       refine Run.cond_f rfl ?_
       refine Run.skip ?_
       refine hk27 _ _ ?_
       refine Run.seq fun k30 hk30 => ?_
       refine Run.region ?_
       show Sq _ _ _ [0, 1, 2, 3, 4] _ _ _ _
       refine Sq.quiet (i := 0) rfl (Want.none rfl) rfl (ltN rfl) (QP.move rfl rfl).read ?_
       refine Sq.eff (i := 1) rfl (Want.none rfl) rfl (ltN rfl) (EF.call rfl ce13 rfl (.cons (by repeat constructor) Takes.nil) (fun F' hle hr => listA F' (M := M) hgood (by have := hMm; omega))) ?_
       rintro v84 _ ⟨_, ⟨L84, hL84, rfl⟩, rfl⟩
       refine J.app ?_
       refine Sq.slCase (v := v84) (xs := L84) (by repeat constructor) (fun a84 c84 hv84 hh84 => ?_)
       subst hv84
       have hl84 : ((L84.length : Nat) : Int) ≤ most := by rw [hL84.length]; exact hMm
       refine Sq.quiet (i := 2) rfl (Want.none rfl) rfl (ltN rfl) (QP.len rfl rfl rfl Try.underlying44).read ?_
       refine Sq.quiet (i := 3) rfl (Want.none rfl) rfl (ltN rfl) (QP.move rfl rfl).read ?_
       refine Sq.quiet (i := 4) rfl (Want.none rfl) rfl (ltN rfl) (QP.gtr rfl rfl rfl).read ?_
       refine J.decF (by omega) ?_
       refine Sq.nil ?_
       refine hk30 _ _ ?_
       refine Run.cond_f rfl ?_
       refine Run.skip ?_
       refine hk15 _ _ ?_
       refine Run.region ?_
       show Sq _ _ _ [0, 1, 2] _ _ _ _
       refine Sq.quiet (i := 0) rfl (Want.none rfl) rfl (ltN rfl) (QP.move rfl rfl).read ?_
       refine Sq.quiet (i := 1) rfl (Want.none rfl) rfl (ltN rfl) (QP.add64 rfl rfl rfl (by first | omega | (simp <;> omega)) (by first | omega | (simp <;> omega))).read ?_
       refine Sq.quiet (i := 2) rfl (Want.none rfl) rfl (ltN rfl) (QP.assign rfl rfl).read ?_
       refine Sq.nil ?_
       exact J.envJ (J.keep (.cons (by repeat constructor) Takes.nil) (hl12 (i + 1) (now + x.gap) (M) (⟨by omega, by omega, by omega, hgood, (hq.mono (show now ≤ now + x.gap by omega)), hMm⟩) (by omega))) ⟨rfl, rfl, rfl, rfl, rfl, rfl, trivial⟩
    ·skip
     refine Sq.nil ?_
     refine hk14 _ _ ?_
     refine Run.cond_f rfl ?_
     refine Run.exit rfl ?_
     refine hk10 _ _ ?_
     refine Run.seq fun k31 hk31 => ?_
     refine Run.region ?_
     show Sq _ _ _ [0, 1, 2, 3] _ _ _ _
     refine Sq.quiet (i := 0) rfl (Want.none rfl) rfl (ltN rfl) (QP.move rfl rfl).read ?_
     refine Sq.quiet (i := 1) rfl (Want.none rfl) rfl (ltN rfl) (QP.move rfl rfl).read ?_
     refine Sq.quiet (i := 2) rfl (Want.none rfl) rfl (ltN rfl) (QP.add64 rfl rfl rfl (by first | omega | (simp <;> omega)) (by first | omega | (simp <;> omega))).read ?_
     refine Sq.eff (i := 3) rfl (Want.none rfl) rfl (ltN rfl) (EF.call rfl ce12 rfl (.cons (by repeat constructor) Takes.nil) (fun F' hle hr => tickA F' (M := M) hgood (by omega) (now + 11796300) (by omega) (by omega))) ?_
     rintro _ _ ⟨_, ⟨L91, hL91, rfl⟩, rfl⟩
     refine J.app ?_
     rw [silent_out hgood hq rfl]
     refine Sq.nil ?_
     refine hk31 _ _ ?_
     refine Run.seq fun k32 hk32 => ?_
     refine Run.region ?_
     show Sq _ _ _ [0, 1, 2, 3, 4, 5, 6, 7] _ _ _ _
     refine Sq.quiet (i := 0) rfl (Want.none rfl) rfl (ltN rfl) (QP.move rfl rfl).read ?_
     refine Sq.eff (i := 1) rfl (Want.none rfl) rfl (ltN rfl) (EF.call rfl ce13 rfl (.cons (by repeat constructor) Takes.nil) (fun F' hle hr => listA F' (M := []) (GoodN.nil _) (by decide))) ?_
     rintro v93 _ ⟨_, ⟨L93, hL93, rfl⟩, rfl⟩
     refine J.app ?_
     refine Sq.slCase (v := v93) (xs := L93) (by repeat constructor) (fun a93 c93 hv93 hh93 => ?_)
     subst hv93
     refine Sq.quiet (i := 2) rfl (Want.none rfl) rfl (ltN rfl) (QP.len rfl rfl rfl Try.underlying44).read ?_
     refine Sq.quiet (i := 3) rfl (Want.none rfl) rfl (ltN rfl) (QP.eql rfl rfl rfl).read ?_
     refine J.decT (by have := hL93.length; simp at this; simp [this]) ?_
     refine Sq.quiet (i := 4) rfl (Want.none rfl) rfl (ltN rfl) (QP.move rfl rfl).read ?_
     refine Sq.eff (i := 5) rfl (Want.yes rfl rfl rfl rfl) rfl (ltN rfl) (EF.call rfl ce9 rfl Takes.nil (fun F' hle hr => live_spec F')) ?_
     rintro _ _ ⟨_, ⟨rfl, rfl⟩, rfl⟩
     refine J.app ?_
     refine Sq.quiet (i := 6) rfl (Want.none rfl) rfl (ltN rfl) (QP.pick_t rfl rfl rfl).read ?_
     refine Sq.quiet (i := 7) rfl (Want.none rfl) rfl (ltN rfl) (QP.assign rfl rfl).read ?_
     refine Sq.nil ?_
     refine hk32 _ _ ?_
     refine Run.ret ?_
     exact J.ends (res_tmp rfl rfl) Takes.nil ⟨rfl, rfl⟩
 ·skip
  refine Sq.quiet (i := 3) rfl (Want.none rfl) rfl (ltN rfl) (QP.not rfl rfl).read ?_
  refine Sq.quiet (i := 4) rfl (Want.none rfl) rfl (ltN rfl) (QP.move rfl rfl).read ?_
  refine Sq.skip (i := 5) rfl (Want.no rfl rfl rfl rfl) rfl (ltN rfl) ?_
  refine Sq.skip (i := 6) rfl (Want.no rfl rfl rfl rfl) rfl (ltN rfl) ?_
  refine Sq.quiet (i := 7) rfl (Want.none rfl) rfl (ltN rfl) (QP.pick_t rfl rfl rfl).read ?_
  refine Sq.quiet (i := 8) rfl (Want.none rfl) rfl (ltN rfl) (QP.move rfl rfl).read ?_
  refine Sq.skip (i := 9) rfl (Want.no rfl rfl rfl rfl) rfl (ltN rfl) ?_
  refine Sq.skip (i := 10) rfl (Want.no rfl rfl rfl rfl) rfl (ltN rfl) ?_
  refine Sq.quiet (i := 11) rfl (Want.none rfl) rfl (ltN rfl) (QP.pick_t rfl rfl rfl).read ?_
  refine Sq.nil ?_
  refine hk3 _ _ ?_
  refine Run.cond_t rfl ?_
  refine Run.seq fun k33 hk33 => ?_
  refine Run.region ?_
  show Sq _ _ _ [0, 1] _ _ _ _
  refine Sq.eff (i := 0) rfl (Want.none rfl) rfl (ltN rfl) (EF.call rfl ce9 rfl Takes.nil (fun F' hle hr => live_spec F')) ?_
  rintro _ _ ⟨_, ⟨rfl, rfl⟩, rfl⟩
  refine J.app ?_
  refine Sq.quiet (i := 1) rfl (Want.none rfl) rfl (ltN rfl) (QP.assign rfl rfl).read ?_
  refine Sq.nil ?_
  refine hk33 _ _ ?_
  refine Run.ret ?_
  exact J.ends (res_tmp rfl rfl) Takes.nil ⟨rfl, rfl⟩
end Slb
