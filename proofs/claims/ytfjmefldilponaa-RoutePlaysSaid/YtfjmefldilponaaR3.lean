/- R3: a part of the proof that a law of this package holds for every input; no condition. -/
import Derived.Test.YtfjmefldilponaaR2
namespace Slb
open Go Go.Proofs
set_option maxRecDepth 20000
def KeyedR (M : TabR) : Prop := ∀ e ∈ M, e.1 = keyR e.2
/-- How long a tale may be believed. -/
def HoldR (M : TabR) : Prop := ∀ e ∈ M, 1 ≤ e.2.hold ∧ e.2.hold ≤ 2147483648
abbrev OrdR (M : TabR) (L : List Route) : Prop := InOrder keyR cmpRoute M L
theorem lenR {E : EntR} : (vals E).length = E.length := by simp [vals]
theorem newT (F : Fr) (most : Int) : Spec Try.prog 11 #[.int .i64 most] [] F fun v S => ∃ b, v = .pointer (some ⟨b, 0, none⟩) ∧ S = [RTab b most []] :=
  (newQ F most).post fun v S1 w ⟨b, r, h1, h2⟩ s => ⟨_, ⟨b, h1, rfl⟩, by
    subst h2
    refine Sat.pack (r := []) (m := [blk b (RouteTable.enc ⟨most, some r⟩) 76, mapR r []]) s fun p hp => ⟨r, [], rfl, hp⟩⟩
theorem allT (F : Fr) {b : Nat} {most : Int} {M : TabR} (hM : M.length ≤ 1000000) : Spec Try.prog 35 #[.pointer (some ⟨b, 0, none⟩)] [RTab b most M] F
    fun v S => ∃ r E es, vals E = M ∧ (E.map (·.1)).Nodup ∧ es.Perm E ∧ SortedE es ∧ S = [blk b (RouteTable.enc ⟨most, some r⟩) 76, mapR r (ptrs E), rowsA Route.enc 37 E, slA 77 1 pvE v es] := by
  refine (gtab_see (Q := fun v E B => ∃ es, es.Perm E ∧ SortedE es ∧ B = [slA 77 1 pvE v es]) fun F' r E h1 h2 hv hle => ?_).mono ?_
  · refine (allQ F' ⟨h1, h2⟩ (by rw [← hv, lenR] at hM; exact hM)).mono ?_
    rintro v S ⟨es, h3, h4, rfl⟩
    exact ⟨_, ⟨es, h3, h4, rfl⟩, rfl⟩
  · rintro v S ⟨r, E, B, h1, h2, ⟨es, h3, h4, rfl⟩, rfl⟩
    exact ⟨r, E, es, h1, h2, h3, h4, rfl⟩
theorem perm_sameR {r : Nat} {E : EntR} {S : List HProp} : ((mapR r (ptrs E) :: S) ++ rows Route.enc 37 E).Perm (mapR r (ptrs E) :: (rows Route.enc 37 E ++ (S ++ []))) := by
  simp only [List.cons_append, List.append_nil]
  exact List.Perm.cons _ List.perm_append_comm
theorem ord_of {M : TabR} (hk : KeyedR M) (hn : (M.map (·.1)).Nodup) {L : List Route} (hp : L.Perm (M.map (·.2))) (hs : SortedR L) : OrdR M L := by
  refine ⟨hk, hn, hp, ?_⟩
  have hnd : (L.map keyR).Nodup := by
    have : (L.map keyR).Perm (M.map (·.1)) := by
      have h1 := hp.map keyR
      rw [List.map_map] at h1
      refine h1.trans (List.Perm.of_eq (List.map_congr_left fun e he => ?_))
      exact (hk e he).symm
    exact this.nodup_iff.2 hn
  have h2 : L.Pairwise fun a b => keyR a ≠ keyR b := List.pairwise_map.1 hnd
  refine (hs.and h2).imp fun {a b} ⟨h3, h4⟩ => ?_
  have h5 : cmpRoute a b ≠ 0 := fun h => h4 ((keyCmpR.zero _ _).1 h)
  have h6 := keyCmpR.neg b a
  by_cases h7 : cmpRoute a b < 0
  · exact h7
  · exact absurd (h6.2 (by omega)) h3
theorem listT (F : Fr) {b : Nat} {most : Int} {M : TabR} (hk : KeyedR M) (hM : M.length ≤ 1000000) : Spec Try.prog 15 #[.pointer (some ⟨b, 0, none⟩)] [RTab b most M] F
    fun v S => ∃ L, OrdR M L ∧ S = [RTab b most M, slA 37 81 Route.enc v L] := by
  refine (gtab_spec (A := []) (Q := fun v M' B => ∃ L, OrdR M L ∧ M' = M ∧ B = [slA 37 81 Route.enc v L]) fun F' r E h1 h2 hv hnd hle => ?_).mono ?_
  · refine (listQ F' ⟨h1, h2⟩ (by rw [← hv, lenR] at hM; exact hM)).mono ?_
    rintro v S ⟨es, h3, h4, rfl⟩
    refine ⟨E, _, [], ⟨es.map (·.2.2), ?_, hv, rfl⟩, perm_sameR⟩
    refine ord_of hk hnd ?_ (List.pairwise_map.2 h4)
    rw [← hv]
    have := h3.map (fun e => e.2.2)
    rw [vals, List.map_map]; exact this
  · rintro v S ⟨M', B, ⟨L, h1, rfl, rfl⟩, rfl⟩
    exact ⟨L, h1, rfl⟩
/-- What a tale leaves. -/
def tellF (most : Int) (M : TabR) (now : Int) (x : Route) (ok : Bool) : Int × Int × TabR :=
  match alook M (keyR x) with
  | none => let t := tellNew M.length most x ok; (t.1, t.2.1, if t.2.2 then aset M (keyR x) (newR now x) else M)
  | some s => let t := tellOld now s x ok; (t.1, t.2.1, aset M (keyR x) t.2.2)
theorem permR_set {r c : Nat} {E : EntR} {k : RouteKey} {x : Route} : ∃ rr, ([mapR r (aset (ptrs E) k c), blk c x.enc 37] ++ rows Route.enc 37 E).Perm (mapR r (ptrs (aset E k (c, x))) :: (rows Route.enc 37 (aset E k (c, x)) ++ ([] ++ rr))) := by
  obtain ⟨rr, hr⟩ := rows_aset Route.enc 37 E k c x
  refine ⟨rr, ?_⟩
  rw [ptrs_aset]
  exact List.Perm.cons _ hr
theorem tellT (F : Fr) {b : Nat} {most : Int} {M : TabR} (now : Int) (hn0 : 0 ≤ now) (hn1 : now ≤ 2305843009213693952) (x : Route) (ok : Bool) (hh : HoldR M) :
    Spec Try.prog 12 #[.pointer (some ⟨b, 0, none⟩), .int .i64 now, .agg (Route.enc x).toArray, .bool ok] [RTab b most M] F
    fun v S => v = .tuple #[.int .i64 (tellF most M now x ok).1, .int .i64 (tellF most M now x ok).2.1] ∧ S = [RTab b most (tellF most M now x ok).2.2] := by
  cases h0 : alook M (keyR x) with
  | none =>
    refine (gtab_spec (A := []) (Q := fun v M' B => v = .tuple #[.int .i64 (tellF most M now x ok).1, .int .i64 (tellF most M now x ok).2.1] ∧ M' = (tellF most M now x ok).2.2 ∧ B = []) fun F' r E h1 h2 hv hnd hle => ?_).mono ?_
    · have hE : alook E (keyR x) = none := by
        rw [← hv, alook_vals] at h0
        cases he : alook E (keyR x) with
        | none => rfl
        | some y => rw [he] at h0; cases h0
      refine (tellQ_none F' ⟨h1, h2⟩ now hn0 hn1 x ok hE).mono ?_
      rintro v S ⟨a, e, t, h3, h4, h5⟩
      have hlen : (ptrs E).length = M.length := by rw [← hv]; simp [ptrs, vals]
      rw [hlen] at h4
      have hT : tellF most M now x ok = (a, e, if t then aset M (keyR x) (newR now x) else M) := by
        simp only [tellF, h0, h4]
      rcases h5 with ⟨rfl, rfl⟩ | ⟨rfl, c, rfl⟩
      · exact ⟨E, [], [], ⟨by rw [hT]; exact h3, by rw [hT]; exact hv, rfl⟩, perm_sameR⟩
      · obtain ⟨rr, hr⟩ := permR_set (r := r) (c := c) (E := E) (k := keyR x) (x := newR now x)
        exact ⟨_, [], rr, ⟨by rw [hT]; exact h3, by rw [hT, vals_aset, hv]; rfl, rfl⟩, hr⟩
    · rintro v S ⟨M', B, ⟨h1, rfl, rfl⟩, rfl⟩; exact ⟨h1, rfl⟩
  | some s =>
    refine (gtab_at (Q := fun v s2 => v = .tuple #[.int .i64 (tellOld now s x ok).1, .int .i64 (tellOld now s x ok).2.1] ∧ s2 = (tellOld now s x ok).2.2) h0 fun F' r E c h1 hv hl hle => ?_).mono ?_
    · refine (tellQ_some F' h1 now hn0 hn1 x ok hl (hh _ (alook_some h0))).mono ?_
      rintro v S ⟨a, e, s2, h3, h4, rfl⟩
      exact ⟨s2, ⟨by rw [h4]; exact h3, by rw [h4]⟩, rfl⟩
    · rintro v S ⟨s2, ⟨h1, rfl⟩, rfl⟩
      have hT : tellF most M now x ok = ((tellOld now s x ok).1, (tellOld now s x ok).2.1, aset M (keyR x) (tellOld now s x ok).2.2) := by
        simp only [tellF, h0]
      rw [hT]
      exact ⟨h1, rfl⟩
theorem ptrs_step {E : EntR} {k : RouteKey} {c : Nat} {s s' : Route} (h : alook E k = some (c, s)) : ptrs (aset E k (c, s')) = ptrs E := by
  rw [ptrs_aset]
  exact aset_same (by rw [alook_ptrs, h]; rfl)
theorem step_some {g : Route → Option Route} {E es : EntR} {i : Nat} {e : RouteKey × (Nat × Route)} {s' : Route} (hi : es[i]? = some e) (hg : g e.2.2 = some s') : stepE g E (es.take (i + 1)) = aset (stepE g E (es.take i)) e.1 (e.2.1, s') := by
  have := stepE_succ (g := g) (E := E) hi
  rw [hg] at this
  exact this
theorem step_none {g : Route → Option Route} {E es : EntR} {i : Nat} {e : RouteKey × (Nat × Route)} (hi : es[i]? = some e) (hg : g e.2.2 = none) : stepE g E (es.take (i + 1)) = adel (stepE g E (es.take i)) e.1 := by
  have := stepE_succ (g := g) (E := E) hi
  rw [hg] at this
  exact this
theorem mem_of_es {E es : EntR} {M : TabR} (hv : vals E = M) (hp : es.Perm E) {i : Nat} {e : RouteKey × (Nat × Route)} (hi : es[i]? = some e) : (e.1, e.2.2) ∈ M := by
  rw [← hv]
  exact List.mem_map.2 ⟨e, hp.subset (List.mem_of_getElem? hi), rfl⟩
/-- A neighbour's routes that are believed. -/
def mineR (j : Int) (fr : Bs 16) (s : Route) : Bool := decide (s.if_.val = j) && decide (s.from_ = fr) && decide (s.ref ≠ 65535)
def retrR (now j : Int) (fr : Bs 16) (s : Route) : Route := if mineR j fr s then { s with ref := 65535, until_ := now + s.hold } else s
def retrG (now j : Int) (fr : Bs 16) (s : Route) : Option Route := some (retrR now j fr s)

theorem retractT0 (F : Fr) {b : Nat} {most : Int} {M : TabR} (hM : M.length ≤ 1000000) (hh0 : HoldR M) (now : Int) (hn0 : 0 ≤ now) (hn1 : now ≤ 2305843009213693952) (j : Int) (fr : Bs 16) : Spec Try.prog 17 #[.pointer (some ⟨b, 0, none⟩), .int .i64 now, .int .i64 j, .agg (Bs.enc (fr : Bs 16)).toArray] [RTab b most M] F (fun v S => ∃ r E es, vals E = M ∧ (E.map (·.1)).Nodup ∧ es.Perm E ∧ v = .int .i64 (es.filter fun e => mineR j fr e.2.2).length ∧ S = [blk b (RouteTable.enc ⟨most, some r⟩) 76, mapR r (ptrs (stepE (retrG now j fr) E es)), rowsA Route.enc 37 (stepE (retrG now j fr) E es)]) := by
 refine Spec.intro (N := 55) (args := [.pointer (some ⟨b, 0, none⟩), .int .i64 now, .int .i64 j, .agg (Bs.enc (fr : Bs 16)).toArray]) Try.func17 rfl rfl (by simp) ?_
 refine Run.seq fun k1 hk1 => ?_
 refine Run.region ?_
 show Sq _ _ _ [0, 1] _ _ _ _
 refine Sq.eff (i := 0) rfl (Want.none rfl) rfl (ltN rfl) (EF.boxA rfl rfl) ?_
 rintro _ _ ⟨b7, rfl, rfl⟩
 refine Sq.quiet (i := 1) rfl (Want.none rfl) rfl (ltN rfl) (QP.assign rfl rfl).read ?_
 refine Sq.nil ?_
 refine hk1 _ _ ?_
 refine Run.seq fun k2 hk2 => ?_
 refine Run.seq fun k3 hk3 => ?_
 refine Run.region ?_
 show Sq _ _ _ [0, 1, 2, 3] _ _ _ _
 refine Sq.quiet (i := 0) rfl (Want.none rfl) rfl (ltN rfl) (QP.move rfl rfl).read ?_
 refine Sq.eff (i := 1) rfl (Want.none rfl) rfl (ltN rfl) (EF.call rfl ce35 rfl (.cons (by repeat constructor) Takes.nil) (fun F' hle hr => allT F' hM)) ?_
 rintro v12 _ ⟨_, ⟨r, E, es, hv, hn, hp, hs, rfl⟩, rfl⟩
 refine J.app ?_
 refine Sq.slCase (v := v12) (xs := es) (by repeat constructor) (fun a12 c12 hv12 hh12 => ?_)
 subst hv12
 have hyl : es.length = E.length := hp.length_eq
 have hEl : E.length = M.length := by rw [← hv, lenR]
 refine Sq.quiet (i := 2) rfl (Want.none rfl) rfl (ltN rfl) (QP.len rfl rfl rfl Try.underlying80).read ?_
 refine Sq.quiet (i := 3) rfl (Want.none rfl) rfl (ltN rfl) (QP.move rfl rfl).read ?_
 refine Sq.nil ?_
 refine hk3 _ _ ?_
 refine Run.block ?_
 refine Run.loop2 (fun (i : Nat) (Pm : List (RouteKey × Nat)) => i ≤ es.length ∧ Pm = ptrs (stepE (retrG now j fr) E (es.take i))) (fun i Pm => .cons 0 (.pointer (some ⟨b, 0, none⟩)) (.cons 1 (.int .i64 now) (.cons 2 (.int .i64 j) (.cons 7 (.pointer (some ⟨b7, 0, none⟩)) (.cons 8 (.int .i64 ((es.take i).filter fun e => mineR j fr e.2.2).length) (.cons 12 (.slice a12 es.length c12) (.cons 13 (.int .i64 es.length) (.cons 14 (.int .i64 i) (.nil))))))))) (fun i Pm => [blk b (RouteTable.enc ⟨most, some r⟩) 76, mapR r Pm, rowsA Route.enc 37 (stepE (retrG now j fr) E (es.take i)), slA 77 1 pvE (.slice a12 es.length c12) es, blk b7 (Bs.enc fr) 28]) (fun i Pm => es.length - i) (0) (ptrs E) (⟨Nat.zero_le _, rfl⟩) ?_ ?_
 ·exact fun _ j => J.envJ (J.keep (.cons (by repeat constructor) (.cons (by repeat constructor) (.cons (by repeat constructor) (.cons (by repeat constructor) (.cons (by repeat constructor) Takes.nil))))) j) ⟨rfl, rfl, rfl, rfl, rfl, rfl, rfl, rfl, trivial⟩
 rintro i Pm ⟨hile, hPm⟩ kl4 hl4
 refine Run.seq fun k5 hk5 => ?_
 refine Run.region ?_
 show Sq _ _ _ [0] _ _ _ _
 refine Sq.quiet (i := 0) rfl (Want.none rfl) rfl (ltN rfl) (QP.lss rfl rfl rfl).read ?_
 refine J.caseD (fun c15 => ?_) (fun c15 => ?_)
 ·skip
  refine Sq.nil ?_
  refine hk5 _ _ ?_
  refine Run.seq fun k6 hk6 => ?_
  refine Run.cond_t rfl ?_
  refine Run.skip ?_
  refine hk6 _ _ ?_
  refine Run.seq fun k7 hk7 => ?_
  refine Run.block ?_
  refine Run.seq fun k8 hk8 => ?_
  refine Run.region ?_
  show Sq _ _ _ [0, 1, 2] _ _ _ _
  have hlt : i < es.length := by omega
  obtain ⟨e, hi⟩ : ∃ e, es[i]? = some e := ⟨_, List.getElem?_eq_getElem hlt⟩
  obtain ⟨b0, o0, rfl⟩ := hh12.get (by omega)
  have hlook : alook (stepE (retrG now j fr) E (es.take i)) e.1 = some (e.2.1, e.2.2) := stepE_look hn hp hi
  have hhold := hh0 _ (mem_of_es hv hp hi)
  simp only at hhold
  refine Sq.openE (by repeat constructor) (fun _ g => rowsA_open (c := e.2.1) (s := e.2.2) hlook g) fun _ => ?_
  refine Sq.app ?_
  have hfl : ((es.take i).filter fun e => mineR j fr e.2.2).length ≤ 1000000 := by
    have := List.length_filter_le (fun e => mineR j fr e.2.2) (es.take i)
    have := List.length_take_le i es
    omega
  refine Sq.quiet (i := 0) rfl (Want.none rfl) rfl (ltN rfl) (QP.indexAddr rfl rfl rfl Try.underlying80 z77 (by first | omega | (simp <;> omega)) (by first | omega | (simp <;> omega))).read ?_
  refine Sq.quiet (i := 1) rfl (Want.none rfl) rfl (ltN rfl) (QR.loadSl1 (ev := evE) rfl rfl g77 (SlAt.own (enc := pvE) (fun _ => rfl) (by repeat constructor)) hi) ?_
  refine Sq.quiet (i := 2) rfl (Want.none rfl) rfl (ltN rfl) (QP.assign rfl rfl).read ?_
  refine Sq.nil ?_
  refine hk8 _ _ ?_
  refine Run.seq fun k9 hk9 => ?_
  refine Run.regionD (M := [0, 1, 3, 7, 0, 31, 63, 127, 255, 511, 1023, 127, 4095, 8191, 16383, 32767, 65535, 131071, 262143, 524287, 1048575]) (q := 2097151) (r := 265224) (by kernel_rfl) ?_
  refine Dw.pure (i := 0) rfl (by kernel_rfl) (Want.none rfl) rfl (ltN rfl) (QP.move rfl rfl) ?_
  refine Dw.pure (i := 1) rfl (by kernel_rfl) (Want.none rfl) rfl (ltN rfl) (QP.nilCheck rfl rfl) ?_
  refine Dw.pure (i := 2) rfl (by kernel_rfl) (Want.none rfl) rfl (ltN rfl) (QP.fieldAddr rfl rfl f37_1) ?_
  refine Dw.read (i := 3) rfl (by kernel_rfl) (Want.none rfl) rfl (ltN rfl) (QR.load1 rfl rfl g3 (Route.sub_if_ _)) ?_
  refine Dw.pure (i := 4) rfl (by kernel_rfl) (Want.none rfl) rfl (ltN rfl) (QP.move rfl rfl) ?_
  refine Dw.pure (i := 5) rfl (by kernel_rfl) (Want.none rfl) rfl (ltN rfl) (QP.eql rfl rfl rfl) ?_
  refine J.caseD (fun c23 => ?_) (fun c23 => ?_)
  ·skip
   refine Dw.pure (i := 6) rfl (by kernel_rfl) (Want.none rfl) rfl (ltN rfl) (QP.move rfl rfl) ?_
   refine Dw.pure (i := 7) rfl (by kernel_rfl) (Want.yes rfl rfl rfl rfl) rfl (ltN rfl) (QP.move rfl rfl) ?_
   refine Dw.pure (i := 8) rfl (by kernel_rfl) (Want.yes rfl rfl rfl rfl) rfl (ltN rfl) (QP.nilCheck rfl rfl) ?_
   refine Dw.pure (i := 9) rfl (by kernel_rfl) (Want.yes rfl rfl rfl rfl) rfl (ltN rfl) (QP.fieldAddr rfl rfl f37_2) ?_
   refine Dw.read (i := 10) rfl (by kernel_rfl) (Want.yes rfl rfl rfl rfl) rfl (ltN rfl) (QR.load rfl rfl g28 (Route.sub_from_ _)) ?_
   refine Dw.read (i := 11) rfl (by kernel_rfl) (Want.yes rfl rfl rfl rfl) rfl (ltN rfl) (QR.load rfl rfl g28 (Bs.sub _)) ?_
   refine Dw.pure (i := 12) rfl (by kernel_rfl) (Want.yes rfl rfl rfl rfl) rfl (ltN rfl) (QP.eql_agg eq28 rfl rfl rfl) ?_
   refine J.caseD (fun c30 => ?_) (fun c30 => ?_)
   ·skip
    refine Dw.pure (i := 13) rfl (by kernel_rfl) (Want.none rfl) rfl (ltN rfl) (QP.pick_t rfl rfl rfl) ?_
    refine Dw.pure (i := 14) rfl (by kernel_rfl) (Want.none rfl) rfl (ltN rfl) (QP.move rfl rfl) ?_
    refine Dw.pure (i := 15) rfl (by kernel_rfl) (Want.yes rfl rfl rfl rfl) rfl (ltN rfl) (QP.move rfl rfl) ?_
    refine Dw.pure (i := 16) rfl (by kernel_rfl) (Want.yes rfl rfl rfl rfl) rfl (ltN rfl) (QP.nilCheck rfl rfl) ?_
    refine Dw.pure (i := 17) rfl (by kernel_rfl) (Want.yes rfl rfl rfl rfl) rfl (ltN rfl) (QP.fieldAddr rfl rfl f37_5) ?_
    refine Dw.read (i := 18) rfl (by kernel_rfl) (Want.yes rfl rfl rfl rfl) rfl (ltN rfl) (QR.load1 rfl rfl g35 (Route.sub_ref _)) ?_
    refine Dw.pure (i := 19) rfl (by kernel_rfl) (Want.yes rfl rfl rfl rfl) rfl (ltN rfl) (QP.neq rfl rfl rfl) ?_
    refine J.caseD (fun c37 => ?_) (fun c37 => ?_)
    ·skip
     refine Dw.pure (i := 20) rfl (by kernel_rfl) (Want.none rfl) rfl (ltN rfl) (QP.pick_t rfl rfl rfl) ?_
     refine Dw.nil (by kernel_rfl) ?_
     refine hk9 _ _ ?_
     refine Run.cond_t rfl ?_
     refine Run.seq fun k10 hk10 => ?_
     refine Run.region ?_
     show Sq _ _ _ [0, 1, 2, 3, 4, 5, 6, 7, 8, 9, 10, 11, 12, 13] _ _ _ _
     refine Sq.quiet (i := 0) rfl (Want.none rfl) rfl (ltN rfl) (QP.move rfl rfl).read ?_
     refine Sq.quiet (i := 1) rfl (Want.none rfl) rfl (ltN rfl) (QP.move rfl rfl).read ?_
     refine Sq.quiet (i := 2) rfl (Want.none rfl) rfl (ltN rfl) (QP.move rfl rfl).read ?_
     refine Sq.quiet (i := 3) rfl (Want.none rfl) rfl (ltN rfl) (QP.move rfl rfl).read ?_
     refine Sq.quiet (i := 4) rfl (Want.none rfl) rfl (ltN rfl) (QP.nilCheck rfl rfl).read ?_
     refine Sq.quiet (i := 5) rfl (Want.none rfl) rfl (ltN rfl) (QP.fieldAddr rfl rfl f37_9).read ?_
     refine Sq.quiet (i := 6) rfl (Want.none rfl) rfl (ltN rfl) (QR.load1 rfl rfl g3 (Route.sub_hold _)) ?_
     refine Sq.quiet (i := 7) rfl (Want.none rfl) rfl (ltN rfl) (QP.add64 rfl rfl rfl (by first | omega | (simp <;> omega)) (by first | omega | (simp <;> omega))).read ?_
     refine Sq.quiet (i := 8) rfl (Want.none rfl) rfl (ltN rfl) (QP.nilCheck rfl rfl).read ?_
     refine Sq.quiet (i := 9) rfl (Want.none rfl) rfl (ltN rfl) (QP.fieldAddr rfl rfl f37_5).read ?_
     refine Sq.act (i := 10) rfl (Want.none rfl) rfl (EF.store rfl rfl rfl z35 (Route.set_ref _ _) (cell_one rfl)) ?_
     rintro _ _ rfl
     generalize hs1 : ({ e.2.2 with ref := 65535 } : Route) = s1
     refine Sq.quiet (i := 11) rfl (Want.none rfl) rfl (ltN rfl) (QP.nilCheck rfl rfl).read ?_
     refine Sq.quiet (i := 12) rfl (Want.none rfl) rfl (ltN rfl) (QP.fieldAddr rfl rfl f37_8).read ?_
     refine Sq.act (i := 13) rfl (Want.none rfl) rfl (EF.store rfl rfl rfl z3 (Route.set_until_ _ _) (cell_one rfl)) ?_
     rintro _ _ rfl
     generalize hs2 : ({ s1 with until_ := now + e.2.2.hold } : Route) = s2
     refine Sq.nil ?_
     refine hk10 _ _ ?_
     refine Run.region ?_
     show Sq _ _ _ [0, 1, 2] _ _ _ _
     refine Sq.quiet (i := 0) rfl (Want.none rfl) rfl (ltN rfl) (QP.move rfl rfl).read ?_
     refine Sq.quiet (i := 1) rfl (Want.none rfl) rfl (ltN rfl) (QP.add64 rfl rfl rfl (by first | omega | (simp <;> omega)) (by first | omega | (simp <;> omega))).read ?_
     refine Sq.quiet (i := 2) rfl (Want.none rfl) rfl (ltN rfl) (QP.assign rfl rfl).read ?_
     refine Sq.nil ?_
     refine hk7 _ _ ?_
     refine Run.region ?_
     show Sq _ _ _ [0, 1] _ _ _ _
     have hmine : mineR j fr e.2.2 = true := by simp only [mineR, c23, c30, c37, decide_true, Bool.and_true, ne_eq, not_false_eq_true]
     have hst := step_some (g := retrG now j fr) (E := E) hi (show retrG now j fr e.2.2 = some s2 from by unfold retrG retrR; rw [hmine, if_pos rfl]; subst hs2 hs1; rfl)
     refine Sq.close (A := rowsA Route.enc 37 (stepE (retrG now j fr) E (es.take (i + 1)))) (m := [blk e.2.1 (Route.enc s2) 37, rowsA Route.enc 37 (adel (stepE (retrG now j fr) E (es.take i)) e.1)]) (.cons (by repeat constructor) (.cons (by repeat constructor) Takes.nil)) (fun _ g => by rw [hst]; exact rowsA_close hlook g) ?_
     refine Sq.quiet (i := 0) rfl (Want.none rfl) rfl (ltN rfl) (QP.add64 rfl rfl rfl (by first | omega | (simp <;> omega)) (by first | omega | (simp <;> omega))).read ?_
     refine Sq.quiet (i := 1) rfl (Want.none rfl) rfl (ltN rfl) (QP.move rfl rfl).read ?_
     refine Sq.nil ?_
     exact J.envJ (J.keep (.cons (by repeat constructor) (.cons (by repeat constructor) (.cons (by repeat constructor) (.cons (by repeat constructor) (.cons (by repeat constructor) Takes.nil))))) (hl4 (i + 1) (Pm) (⟨by omega, by rw [hst, ptrs_step hlook]; exact hPm⟩) (by omega))) ⟨rfl, rfl, rfl, rfl, (congrArg (fun n : Nat => some (Value.int .i64 n)) (show _ = _ from by rw [filter_succ _ hi, hmine]; simp)), rfl, rfl, rfl, trivial⟩
    ·skip
     refine Dw.pure (i := 20) rfl (by kernel_rfl) (Want.none rfl) rfl (ltN rfl) (QP.pick_t rfl rfl rfl) ?_
     refine Dw.nil (by kernel_rfl) ?_
     refine hk9 _ _ ?_
     refine Run.cond_f rfl ?_
     refine Run.skip ?_
     refine hk7 _ _ ?_
     refine Run.region ?_
     show Sq _ _ _ [0, 1] _ _ _ _
     have hmine : mineR j fr e.2.2 = false := by simp only [mineR, Bool.and_eq_false_iff, decide_eq_false_iff_not]; exact .inr c37
     have hst := step_some (g := retrG now j fr) (E := E) hi (show retrG now j fr e.2.2 = some e.2.2 from by unfold retrG retrR; rw [hmine]; rfl)
     refine Sq.close (A := rowsA Route.enc 37 (stepE (retrG now j fr) E (es.take (i + 1)))) (m := [blk e.2.1 (Route.enc e.2.2) 37, rowsA Route.enc 37 (adel (stepE (retrG now j fr) E (es.take i)) e.1)]) (.cons (by repeat constructor) (.cons (by repeat constructor) Takes.nil)) (fun _ g => by rw [hst]; exact rowsA_close hlook g) ?_
     refine Sq.quiet (i := 0) rfl (Want.none rfl) rfl (ltN rfl) (QP.add64 rfl rfl rfl (by first | omega | (simp <;> omega)) (by first | omega | (simp <;> omega))).read ?_
     refine Sq.quiet (i := 1) rfl (Want.none rfl) rfl (ltN rfl) (QP.move rfl rfl).read ?_
     refine Sq.nil ?_
     exact J.envJ (J.keep (.cons (by repeat constructor) (.cons (by repeat constructor) (.cons (by repeat constructor) (.cons (by repeat constructor) (.cons (by repeat constructor) Takes.nil))))) (hl4 (i + 1) (Pm) (⟨by omega, by rw [hst, ptrs_step hlook]; exact hPm⟩) (by omega))) ⟨rfl, rfl, rfl, rfl, (congrArg (fun n : Nat => some (Value.int .i64 n)) (show _ = _ from by rw [filter_succ _ hi, hmine]; simp)), rfl, rfl, rfl, trivial⟩
   ·skip
    refine Dw.pure (i := 13) rfl (by kernel_rfl) (Want.none rfl) rfl (ltN rfl) (QP.pick_t rfl rfl rfl) ?_
    refine Dw.pure (i := 14) rfl (by kernel_rfl) (Want.none rfl) rfl (ltN rfl) (QP.move rfl rfl) ?_
    refine Dw.skip (i := 15) rfl (by kernel_rfl) (Want.no rfl rfl rfl rfl) rfl (ltN rfl) ?_
    refine Dw.skip (i := 16) rfl (by kernel_rfl) (Want.no rfl rfl rfl rfl) rfl (ltN rfl) ?_
    refine Dw.skip (i := 17) rfl (by kernel_rfl) (Want.no rfl rfl rfl rfl) rfl (ltN rfl) ?_
    refine Dw.skip (i := 18) rfl (by kernel_rfl) (Want.no rfl rfl rfl rfl) rfl (ltN rfl) ?_
    refine Dw.skip (i := 19) rfl (by kernel_rfl) (Want.no rfl rfl rfl rfl) rfl (ltN rfl) ?_
    refine Dw.pure (i := 20) rfl (by kernel_rfl) (Want.none rfl) rfl (ltN rfl) (QP.pick_f rfl rfl rfl) ?_
    refine Dw.nil (by kernel_rfl) ?_
    refine hk9 _ _ ?_
    refine Run.cond_f rfl ?_
    refine Run.skip ?_
    refine hk7 _ _ ?_
    refine Run.region ?_
    show Sq _ _ _ [0, 1] _ _ _ _
    have hmine : mineR j fr e.2.2 = false := by simp only [mineR, Bool.and_eq_false_iff, decide_eq_false_iff_not]; exact .inl (.inr c30)
    have hst := step_some (g := retrG now j fr) (E := E) hi (show retrG now j fr e.2.2 = some e.2.2 from by unfold retrG retrR; rw [hmine]; rfl)
    refine Sq.close (A := rowsA Route.enc 37 (stepE (retrG now j fr) E (es.take (i + 1)))) (m := [blk e.2.1 (Route.enc e.2.2) 37, rowsA Route.enc 37 (adel (stepE (retrG now j fr) E (es.take i)) e.1)]) (.cons (by repeat constructor) (.cons (by repeat constructor) Takes.nil)) (fun _ g => by rw [hst]; exact rowsA_close hlook g) ?_
    refine Sq.quiet (i := 0) rfl (Want.none rfl) rfl (ltN rfl) (QP.add64 rfl rfl rfl (by first | omega | (simp <;> omega)) (by first | omega | (simp <;> omega))).read ?_
    refine Sq.quiet (i := 1) rfl (Want.none rfl) rfl (ltN rfl) (QP.move rfl rfl).read ?_
    refine Sq.nil ?_
    exact J.envJ (J.keep (.cons (by repeat constructor) (.cons (by repeat constructor) (.cons (by repeat constructor) (.cons (by repeat constructor) (.cons (by repeat constructor) Takes.nil))))) (hl4 (i + 1) (Pm) (⟨by omega, by rw [hst, ptrs_step hlook]; exact hPm⟩) (by omega))) ⟨rfl, rfl, rfl, rfl, (congrArg (fun n : Nat => some (Value.int .i64 n)) (show _ = _ from by rw [filter_succ _ hi, hmine]; simp)), rfl, rfl, rfl, trivial⟩
  ·skip
   refine Dw.pure (i := 6) rfl (by kernel_rfl) (Want.none rfl) rfl (ltN rfl) (QP.move rfl rfl) ?_
   refine Dw.skip (i := 7) rfl (by kernel_rfl) (Want.no rfl rfl rfl rfl) rfl (ltN rfl) ?_
   refine Dw.skip (i := 8) rfl (by kernel_rfl) (Want.no rfl rfl rfl rfl) rfl (ltN rfl) ?_
   refine Dw.skip (i := 9) rfl (by kernel_rfl) (Want.no rfl rfl rfl rfl) rfl (ltN rfl) ?_
   refine Dw.skip (i := 10) rfl (by kernel_rfl) (Want.no rfl rfl rfl rfl) rfl (ltN rfl) ?_
   refine Dw.skip (i := 11) rfl (by kernel_rfl) (Want.no rfl rfl rfl rfl) rfl (ltN rfl) ?_
   refine Dw.skip (i := 12) rfl (by kernel_rfl) (Want.no rfl rfl rfl rfl) rfl (ltN rfl) ?_
   refine Dw.pure (i := 13) rfl (by kernel_rfl) (Want.none rfl) rfl (ltN rfl) (QP.pick_f rfl rfl rfl) ?_
   refine Dw.pure (i := 14) rfl (by kernel_rfl) (Want.none rfl) rfl (ltN rfl) (QP.move rfl rfl) ?_
   refine Dw.skip (i := 15) rfl (by kernel_rfl) (Want.no rfl rfl rfl rfl) rfl (ltN rfl) ?_
   refine Dw.skip (i := 16) rfl (by kernel_rfl) (Want.no rfl rfl rfl rfl) rfl (ltN rfl) ?_
   refine Dw.skip (i := 17) rfl (by kernel_rfl) (Want.no rfl rfl rfl rfl) rfl (ltN rfl) ?_
   refine Dw.skip (i := 18) rfl (by kernel_rfl) (Want.no rfl rfl rfl rfl) rfl (ltN rfl) ?_
   refine Dw.skip (i := 19) rfl (by kernel_rfl) (Want.no rfl rfl rfl rfl) rfl (ltN rfl) ?_
   refine Dw.pure (i := 20) rfl (by kernel_rfl) (Want.none rfl) rfl (ltN rfl) (QP.pick_f rfl rfl rfl) ?_
   refine Dw.nil (by kernel_rfl) ?_
   refine hk9 _ _ ?_
   refine Run.cond_f rfl ?_
   refine Run.skip ?_
   refine hk7 _ _ ?_
   refine Run.region ?_
   show Sq _ _ _ [0, 1] _ _ _ _
   have hmine : mineR j fr e.2.2 = false := by simp only [mineR, Bool.and_eq_false_iff, decide_eq_false_iff_not]; exact .inl (.inl c23)
   have hst := step_some (g := retrG now j fr) (E := E) hi (show retrG now j fr e.2.2 = some e.2.2 from by unfold retrG retrR; rw [hmine]; rfl)
   refine Sq.close (A := rowsA Route.enc 37 (stepE (retrG now j fr) E (es.take (i + 1)))) (m := [blk e.2.1 (Route.enc e.2.2) 37, rowsA Route.enc 37 (adel (stepE (retrG now j fr) E (es.take i)) e.1)]) (.cons (by repeat constructor) (.cons (by repeat constructor) Takes.nil)) (fun _ g => by rw [hst]; exact rowsA_close hlook g) ?_
   refine Sq.quiet (i := 0) rfl (Want.none rfl) rfl (ltN rfl) (QP.add64 rfl rfl rfl (by first | omega | (simp <;> omega)) (by first | omega | (simp <;> omega))).read ?_
   refine Sq.quiet (i := 1) rfl (Want.none rfl) rfl (ltN rfl) (QP.move rfl rfl).read ?_
   refine Sq.nil ?_
   exact J.envJ (J.keep (.cons (by repeat constructor) (.cons (by repeat constructor) (.cons (by repeat constructor) (.cons (by repeat constructor) (.cons (by repeat constructor) Takes.nil))))) (hl4 (i + 1) (Pm) (⟨by omega, by rw [hst, ptrs_step hlook]; exact hPm⟩) (by omega))) ⟨rfl, rfl, rfl, rfl, (congrArg (fun n : Nat => some (Value.int .i64 n)) (show _ = _ from by rw [filter_succ _ hi, hmine]; simp)), rfl, rfl, rfl, trivial⟩
 ·skip
  refine Sq.nil ?_
  refine hk5 _ _ ?_
  refine Run.seq fun k11 hk11 => ?_
  refine Run.cond_f rfl ?_
  refine Run.exit rfl ?_
  refine hk2 _ _ ?_
  refine Run.seq fun k12 hk12 => ?_
  refine Run.region ?_
  show Sq _ _ _ [0, 1] _ _ _ _
  refine Sq.quiet (i := 0) rfl (Want.none rfl) rfl (ltN rfl) (QP.move rfl rfl).read ?_
  refine Sq.quiet (i := 1) rfl (Want.none rfl) rfl (ltN rfl) (QP.assign rfl rfl).read ?_
  refine Sq.nil ?_
  refine hk12 _ _ ?_
  refine Run.ret ?_
  have hty : es.take i = es := List.take_of_length_le (by omega)
  rw [hty] at hPm
  subst hPm
  rw [hty]
  exact J.ends (res_tmp rfl rfl) (.cons (by repeat constructor) (.cons (by repeat constructor) (.cons (by repeat constructor) Takes.nil))) ⟨r, E, es, hv, hn, hp, rfl, rfl⟩
end Slb
