/- N5: a part of the proof that a law of this package holds for every input; no condition. -/
import Derived.Test.YtpjndmgdboabfaaN4
namespace Slb
open Go Go.Proofs
set_option maxRecDepth 20000
theorem lenN {E : EntN} : (vals E).length = E.length := by simp [vals]
theorem listO (F : Fr) {b : Nat} {most : Int} {q : Slc} {M : TabN} (hM : M.length ≤ 1000000) : Spec Try.prog 13 #[.pointer (some ⟨b, 0, none⟩)] [NTab b most q M] F
    fun v S => ∃ (r : Nat) (E es : EntN) (L : List Neighbour), vals E = M ∧ (E.map (·.1)).Nodup ∧ es.Perm E ∧ L = es.map (·.2.2) ∧ SortedN L ∧ S = [blk b (NeighTable.enc ⟨most, q, some r⟩) 77, mapN r (ptrs E), rowsA Neighbour.enc 54 E, slA 54 34 Neighbour.enc v L] := by
  refine (gtab_see (Q := fun v E B => ∃ es : EntN, es.Perm E ∧ SortedN (es.map (·.2.2)) ∧ B = [slA 54 34 Neighbour.enc v (es.map (·.2.2))]) fun F' r E h1 h2 hv hle => ?_).mono ?_
  · refine (listQ F' ⟨h1, h2⟩ (by rw [← hv, lenN] at hM; exact hM)).mono ?_
    rintro v S ⟨es, h3, h4, rfl⟩
    exact ⟨_, ⟨es, h3, h4, rfl⟩, rfl⟩
  · rintro v S ⟨r, E, B, h1, h2, ⟨es, h3, h4, rfl⟩, rfl⟩
    exact ⟨r, E, es, _, h1, h2, h3, rfl, h4, rfl⟩
theorem ptrs_step {E : EntN} {k : NeighKey} {c : Nat} {s s' : Neighbour} (h : alook E k = some (c, s)) : ptrs (aset E k (c, s')) = ptrs E := by
  rw [ptrs_aset]
  exact aset_same (by rw [alook_ptrs, h]; rfl)
theorem step_some {g : Neighbour → Option Neighbour} {E es : EntN} {i : Nat} {e : NeighKey × (Nat × Neighbour)} {s' : Neighbour} (hi : es[i]? = some e) (hg : g e.2.2 = some s') : stepE g E (es.take (i + 1)) = aset (stepE g E (es.take i)) e.1 (e.2.1, s') := by
  have := stepE_succ (g := g) (E := E) hi
  rw [hg] at this
  exact this
theorem step_none {g : Neighbour → Option Neighbour} {E es : EntN} {i : Nat} {e : NeighKey × (Nat × Neighbour)} (hi : es[i]? = some e) (hg : g e.2.2 = none) : stepE g E (es.take (i + 1)) = adel (stepE g E (es.take i)) e.1 := by
  have := stepE_succ (g := g) (E := E) hi
  rw [hg] at this
  exact this
theorem mem_of_es {E es : EntN} {M : TabN} (hv : vals E = M) (hp : es.Perm E) {i : Nat} {e : NeighKey × (Nat × Neighbour)} (hi : es[i]? = some e) : (e.1, e.2.2) ∈ M := by
  rw [← hv]
  exact List.mem_map.2 ⟨e, hp.subset (List.mem_of_getElem? hi), rfl⟩

theorem tickT0 (F : Fr) {b : Nat} {most : Int} {q : Slc} {M : TabN} (hM : M.length ≤ 1000000) (hk : KeyedN M) (hr : ∀ e ∈ M, RowOk e.2) (now : Int) (hn0 : 0 ≤ now) (hn1 : now ≤ 2305843009213693952) : Spec Try.prog 12 #[.pointer (some ⟨b, 0, none⟩), .int .i64 now] [NTab b most q M] F (fun v S => ∃ (r : Nat) (E es : EntN) (L : List Neighbour), vals E = M ∧ (E.map (·.1)).Nodup ∧ es.Perm E ∧ L = es.map (·.2.2) ∧ SortedN L ∧ S = [blk b (NeighTable.enc ⟨most, q, some r⟩) 77, mapN r (ptrs (stepE (tickG now) E es)), rowsA Neighbour.enc 54 (stepE (tickG now) E es), slA 54 34 Neighbour.enc v ((L.filter (goneN now)).map (tickR now))]) := by
 refine Spec.intro (N := 87) (args := [.pointer (some ⟨b, 0, none⟩), .int .i64 now]) Try.func12 rfl rfl (by simp) ?_
 refine Run.seq fun k1 hk1 => ?_
 refine Run.region ?_
 show Sq _ _ _ [0] _ _ _ _
 refine J.addSl 54 34 Neighbour.enc ?_
 refine Sq.quiet (i := 0) rfl (Want.none rfl) rfl (ltN rfl) (QP.assign rfl rfl).read ?_
 refine Sq.nil ?_
 refine hk1 _ _ ?_
 refine Run.seq fun k2 hk2 => ?_
 refine Run.seq fun k3 hk3 => ?_
 refine Run.region ?_
 show Sq _ _ _ [0, 1, 2, 3] _ _ _ _
 refine Sq.quiet (i := 0) rfl (Want.none rfl) rfl (ltN rfl) (QP.move rfl rfl).read ?_
 refine Sq.eff (i := 1) rfl (Want.none rfl) rfl (ltN rfl) (EF.call rfl ce13 rfl (.cons (by repeat constructor) Takes.nil) (fun F' hle hr => listO F' hM)) ?_
 rintro v9 _ ⟨_, ⟨r, E, es, L, hv, hn, hp, hL, hs, rfl⟩, rfl⟩
 refine J.app ?_
 refine Sq.slCase (v := v9) (xs := L) (by repeat constructor) (fun a9 c9 hv9 hh9 => ?_)
 subst hv9
 have hLl : L.length = es.length := by rw [hL, List.length_map]
 have hyl : es.length = E.length := hp.length_eq
 have hEl : E.length = M.length := by rw [← hv, lenN]
 refine Sq.quiet (i := 2) rfl (Want.none rfl) rfl (ltN rfl) (QP.len rfl rfl rfl Try.underlying44).read ?_
 refine Sq.quiet (i := 3) rfl (Want.none rfl) rfl (ltN rfl) (QP.move rfl rfl).read ?_
 refine Sq.nil ?_
 refine hk3 _ _ ?_
 refine Run.block ?_
 refine Run.loop3 (fun (i : Nat) (Pm : List (NeighKey × Nat)) (va : Value) => i ≤ es.length ∧ Pm = ptrs (stepE (tickG now) E (es.take i))) (fun i Pm va => .cons 0 (.pointer (some ⟨b, 0, none⟩)) (.cons 1 (.int .i64 now) (.cons 4 (va) (.cons 9 (.slice a9 L.length c9) (.cons 10 (.int .i64 L.length) (.cons 11 (.int .i64 i) (.nil))))))) (fun i Pm va => [blk b (NeighTable.enc ⟨most, q, some r⟩) 77, mapN r Pm, rowsA Neighbour.enc 54 (stepE (tickG now) E (es.take i)), slA 54 34 Neighbour.enc (.slice a9 L.length c9) L, slA 54 34 Neighbour.enc va (((L.take i).filter (goneN now)).map (tickR now))]) (fun i Pm va => es.length - i) (0) (ptrs E) (.slice none 0 0) (⟨Nat.zero_le _, rfl⟩) ?_ ?_
 ·exact fun _ j => J.envJ (J.keep (.cons (by repeat constructor) (.cons (by repeat constructor) (.cons (by repeat constructor) (.cons (by repeat constructor) (.cons (by repeat constructor) Takes.nil))))) j) ⟨rfl, rfl, rfl, rfl, rfl, rfl, trivial⟩
 rintro i Pm va ⟨hile, hPm⟩ kl4 hl4
 refine Run.seq fun k5 hk5 => ?_
 refine Run.region ?_
 show Sq _ _ _ [0] _ _ _ _
 refine Sq.quiet (i := 0) rfl (Want.none rfl) rfl (ltN rfl) (QP.lss rfl rfl rfl).read ?_
 refine J.caseD (fun c12 => ?_) (fun c12 => ?_)
 ·skip
  refine Sq.nil ?_
  refine hk5 _ _ ?_
  refine Run.seq fun k6 hk6 => ?_
  refine Run.cond_t rfl ?_
  refine Run.skip ?_
  refine hk6 _ _ ?_
  refine Run.seq fun k7 hk7 => ?_
  refine Run.block ?_
  refine Run.seq fun k8 hk8 => ?_
  refine Run.region ?_
  show Sq _ _ _ [0, 1, 2, 3] _ _ _ _
  have hlt : i < es.length := by omega
  obtain ⟨e, hi⟩ : ∃ e, es[i]? = some e := ⟨_, List.getElem?_eq_getElem hlt⟩
  have hx : L[i]? = some e.2.2 := by rw [hL, List.getElem?_map, hi]; rfl
  obtain ⟨b0, o0, rfl⟩ := hh9.get (by omega)
  have hlook : alook (stepE (tickG now) E (es.take i)) e.1 = some (e.2.1, e.2.2) := stepE_look hn hp hi
  have hmem := mem_of_es hv hp hi
  have hkey : e.1 = keyN e.2.2 := hk _ hmem
  have hlk : alook Pm ⟨e.2.2.if_, e.2.2.addr⟩ = some e.2.1 := by rw [hPm, show (⟨e.2.2.if_, e.2.2.addr⟩ : NeighKey) = e.1 from hkey.symm, alook_ptrs, hlook]; rfl
  have hro : RowOk e.2.2 := hr _ hmem
  have hl1 : (((L.take i).filter (goneN now)).map (tickR now)).length ≤ 1000000 := by
    rw [List.length_map]
    have := List.length_filter_le (goneN now) (L.take i)
    have := List.length_take_le i L
    omega
  refine Sq.quiet (i := 0) rfl (Want.none rfl) rfl (ltN rfl) (QP.indexAddr rfl rfl rfl Try.underlying44 z54 (by first | omega | (simp <;> omega)) (by first | omega | (simp <;> omega))).read ?_
  refine Sq.quiet (i := 1) rfl (Want.none rfl) rfl (ltN rfl) (QR.loadSl rfl rfl g54 Neighbour.enc_len (SlAt.own Neighbour.enc_len (by repeat constructor)) hx) ?_
  refine Sq.eff (i := 2) rfl (Want.none rfl) rfl (ltN rfl) (EF.allocA (l := Neighbour.enc Neighbour.zero) rfl zero54) ?_
  rintro _ _ ⟨b6, rfl, rfl⟩
  refine Sq.act (i := 3) rfl (Want.none rfl) rfl (EF.storeA rfl rfl rfl z54 (SetL.all (Neighbour.enc_len _) (Neighbour.enc_len _)) (Neighbour.enc_cell _)) ?_
  rintro _ _ rfl
  refine Sq.nil ?_
  refine hk8 _ _ ?_
  refine Run.seq fun k9 hk9 => ?_
  refine Run.regionD (M := [0, 1, 3, 7, 0, 16, 0, 64, 240, 511, 1023]) (q := 1023) (r := 680) (by kernel_rfl) ?_
  refine Dw.pure (i := 0) rfl (by kernel_rfl) (Want.none rfl) rfl (ltN rfl) (QP.move rfl rfl) ?_
  refine Dw.pure (i := 1) rfl (by kernel_rfl) (Want.none rfl) rfl (ltN rfl) (QP.nilCheck rfl rfl) ?_
  refine Dw.pure (i := 2) rfl (by kernel_rfl) (Want.none rfl) rfl (ltN rfl) (QP.fieldAddr rfl rfl f77_2) ?_
  refine Dw.read (i := 3) rfl (by kernel_rfl) (Want.none rfl) rfl (ltN rfl) (QR.load1 rfl rfl g75 (NeighTable.sub_m _)) ?_
  refine Dw.pure (i := 4) rfl (by kernel_rfl) (Want.none rfl) rfl (ltN rfl) (QP.fieldAddr rfl rfl f54_0) ?_
  refine Dw.read (i := 5) rfl (by kernel_rfl) (Want.none rfl) rfl (ltN rfl) (QR.load1 rfl rfl g3 (Neighbour.sub_if_ _)) ?_
  refine Dw.pure (i := 6) rfl (by kernel_rfl) (Want.none rfl) rfl (ltN rfl) (QP.fieldAddr rfl rfl f54_1) ?_
  refine Dw.read (i := 7) rfl (by kernel_rfl) (Want.none rfl) rfl (ltN rfl) (QR.load rfl rfl g29 (Neighbour.sub_addr _)) ?_
  refine Dw.pure (i := 8) rfl (by kernel_rfl) (Want.none rfl) rfl (ltN rfl) (QP.build (l := NeighKey.enc ⟨((e.2.2).if_), ((e.2.2).addr)⟩) rfl st81 rfl (by exact ⟨rfl, ⟨(congrArg some (Bs.len _).symm), trivial⟩⟩) rfl) ?_
  refine Dw.read (i := 9) rfl (by kernel_rfl) (Want.none rfl) rfl (ltN rfl) (QR.lookupSome key81 rfl rfl rfl Try.underlying75 zero79 hlk) ?_
  refine Dw.eff (i := 10) (by kernel_rfl) (by kernel_rfl) ?_
  refine One.mk (o := _) (l := []) rfl (by kernel_rfl) (Want.none rfl) rfl (ltN rfl) ((QP.assign rfl rfl).eff) (by kernel_rfl) ?_
  rintro _ _ ⟨rfl, rfl⟩
  refine ⟨fun _ h => (by cases h), ?_⟩
  refine Dw.nil (by kernel_rfl) ?_
  refine hk9 _ _ ?_
  refine Run.seq fun k10 hk10 => ?_
  refine Run.regionD (M := [0, 1, 3, 0, 8, 24, 56, 0, 128, 384, 0, 2047]) (q := 2047) (r := 64) (by kernel_rfl) ?_
  refine J.openE (by repeat constructor) (fun _ g => rowsA_open (c := e.2.1) (s := e.2.2) hlook g) fun _ => ?_
  refine J.app ?_
  refine Dw.pure (i := 0) rfl (by kernel_rfl) (Want.none rfl) rfl (ltN rfl) (QP.move rfl rfl) ?_
  refine Dw.pure (i := 1) rfl (by kernel_rfl) (Want.none rfl) rfl (ltN rfl) (QP.nilCheck rfl rfl) ?_
  refine Dw.pure (i := 2) rfl (by kernel_rfl) (Want.none rfl) rfl (ltN rfl) (QP.fieldAddr rfl rfl f54_2) ?_
  refine Dw.pure (i := 3) rfl (by kernel_rfl) (Want.none rfl) rfl (ltN rfl) (QP.move rfl rfl) ?_
  refine Dw.pure (i := 4) rfl (by kernel_rfl) (Want.none rfl) rfl (ltN rfl) (QP.nilCheck rfl rfl) ?_
  refine Dw.pure (i := 5) rfl (by kernel_rfl) (Want.none rfl) rfl (ltN rfl) (QP.fieldAddr rfl rfl f54_4) ?_
  refine Dw.read (i := 6) rfl (by kernel_rfl) (Want.none rfl) rfl (ltN rfl) (QR.load1 rfl rfl g3 (Neighbour.sub_multiGap _)) ?_
  refine Dw.pure (i := 7) rfl (by kernel_rfl) (Want.none rfl) rfl (ltN rfl) (QP.move rfl rfl) ?_
  refine Dw.pure (i := 8) rfl (by kernel_rfl) (Want.none rfl) rfl (ltN rfl) (QP.nilCheck rfl rfl) ?_
  refine Dw.pure (i := 9) rfl (by kernel_rfl) (Want.none rfl) rfl (ltN rfl) (QP.fieldAddr rfl rfl f54_6) ?_
  refine Dw.pure (i := 10) rfl (by kernel_rfl) (Want.none rfl) rfl (ltN rfl) (QP.move rfl rfl) ?_
  refine Dw.eff (i := 11) (by kernel_rfl) (by kernel_rfl) ?_
  refine One.mk (o := _) (l := []) rfl (by kernel_rfl) (Want.none rfl) rfl (ltN rfl) (EF.call rfl ce27 rfl (.cons (by repeat constructor) Takes.nil) (fun F' hle hr => lateM0 F' (s := e.2.2) e.2.2.multiGap now hn1 hro.mg hro.ma)) (by kernel_rfl) ?_
  rintro _ _ ⟨_, ⟨rfl, rfl⟩, rfl⟩
  refine ⟨fun _ h => (by cases h), ?_⟩
  refine J.app ?_
  generalize hs1 : ({ e.2.2 with multi := (lateF e.2.2.multi e.2.2.multiGap e.2.2.multiAt now).1, multiAt := (lateF e.2.2.multi e.2.2.multiGap e.2.2.multiAt now).2 } : Neighbour) = s1
  have hs1m : lateM now e.2.2 = s1 := hs1
  refine Dw.nil (by kernel_rfl) ?_
  refine hk10 _ _ ?_
  refine Run.seq fun k11 hk11 => ?_
  refine Run.regionD (M := [0, 1, 3, 0, 8, 24, 56, 0, 128, 384, 0, 2047]) (q := 2047) (r := 64) (by kernel_rfl) ?_
  refine Dw.pure (i := 0) rfl (by kernel_rfl) (Want.none rfl) rfl (ltN rfl) (QP.move rfl rfl) ?_
  refine Dw.pure (i := 1) rfl (by kernel_rfl) (Want.none rfl) rfl (ltN rfl) (QP.nilCheck rfl rfl) ?_
  refine Dw.pure (i := 2) rfl (by kernel_rfl) (Want.none rfl) rfl (ltN rfl) (QP.fieldAddr rfl rfl f54_3) ?_
  refine Dw.pure (i := 3) rfl (by kernel_rfl) (Want.none rfl) rfl (ltN rfl) (QP.move rfl rfl) ?_
  refine Dw.pure (i := 4) rfl (by kernel_rfl) (Want.none rfl) rfl (ltN rfl) (QP.nilCheck rfl rfl) ?_
  refine Dw.pure (i := 5) rfl (by kernel_rfl) (Want.none rfl) rfl (ltN rfl) (QP.fieldAddr rfl rfl f54_5) ?_
  refine Dw.read (i := 6) rfl (by kernel_rfl) (Want.none rfl) rfl (ltN rfl) (QR.load1 rfl rfl g3 (Neighbour.sub_uniGap _)) ?_
  refine Dw.pure (i := 7) rfl (by kernel_rfl) (Want.none rfl) rfl (ltN rfl) (QP.move rfl rfl) ?_
  refine Dw.pure (i := 8) rfl (by kernel_rfl) (Want.none rfl) rfl (ltN rfl) (QP.nilCheck rfl rfl) ?_
  refine Dw.pure (i := 9) rfl (by kernel_rfl) (Want.none rfl) rfl (ltN rfl) (QP.fieldAddr rfl rfl f54_7) ?_
  refine Dw.pure (i := 10) rfl (by kernel_rfl) (Want.none rfl) rfl (ltN rfl) (QP.move rfl rfl) ?_
  refine Dw.eff (i := 11) (by kernel_rfl) (by kernel_rfl) ?_
  refine One.mk (o := _) (l := []) rfl (by kernel_rfl) (Want.none rfl) rfl (ltN rfl) (EF.call rfl ce27 rfl (.cons (by repeat constructor) Takes.nil) (fun F' hle hr => lateU0 F' (s := s1) s1.uniGap now hn1 (by rw [← hs1]; exact hro.ug) (by rw [← hs1]; exact hro.ua))) (by kernel_rfl) ?_
  rintro _ _ ⟨_, ⟨rfl, rfl⟩, rfl⟩
  refine ⟨fun _ h => (by cases h), ?_⟩
  refine J.app ?_
  generalize hX0 : ({ s1 with uni := (lateF s1.uni s1.uniGap s1.uniAt now).1, uniAt := (lateF s1.uni s1.uniGap s1.uniAt now).2 } : Neighbour) = X
  have hX : lateU now (lateM now e.2.2) = X := by rw [hs1m]; exact hX0
  refine Dw.nil (by kernel_rfl) ?_
  refine hk11 _ _ ?_
  refine Run.seq fun k12 hk12 => ?_
  refine Run.seq fun k13 hk13 => ?_
  refine Run.region ?_
  show Sq _ _ _ [0, 1, 2, 3, 4, 5] _ _ _ _
  refine Sq.quiet (i := 0) rfl (Want.none rfl) rfl (ltN rfl) (QP.move rfl rfl).read ?_
  refine Sq.quiet (i := 1) rfl (Want.none rfl) rfl (ltN rfl) (QP.nilCheck rfl rfl).read ?_
  refine Sq.quiet (i := 2) rfl (Want.none rfl) rfl (ltN rfl) (QP.fieldAddr rfl rfl f54_9).read ?_
  refine Sq.quiet (i := 3) rfl (Want.none rfl) rfl (ltN rfl) (QR.load1 rfl rfl g3 (Neighbour.sub_txAt _)) ?_
  refine Sq.quiet (i := 4) rfl (Want.none rfl) rfl (ltN rfl) (QP.move rfl rfl).read ?_
  refine Sq.quiet (i := 5) rfl (Want.none rfl) rfl (ltN rfl) (QP.leq rfl rfl rfl).read ?_
  refine J.caseD (fun c54 => ?_) (fun c54 => ?_)
  ·skip
   refine Sq.nil ?_
   refine hk13 _ _ ?_
   refine Run.cond_t rfl ?_
   refine Run.region ?_
   show Sq _ _ _ [0, 1, 2, 3] _ _ _ _
   refine Sq.quiet (i := 0) rfl (Want.none rfl) rfl (ltN rfl) (QP.move rfl rfl).read ?_
   refine Sq.quiet (i := 1) rfl (Want.none rfl) rfl (ltN rfl) (QP.nilCheck rfl rfl).read ?_
   refine Sq.quiet (i := 2) rfl (Want.none rfl) rfl (ltN rfl) (QP.fieldAddr rfl rfl f54_8).read ?_
   refine Sq.act (i := 3) rfl (Want.none rfl) rfl (EF.store rfl rfl rfl z30 (Neighbour.set_tx _ _) (cell_one rfl)) ?_
   rintro _ _ rfl
   generalize hX2 : ({ X with tx := 65535 } : Neighbour) = X2
   refine Sq.nil ?_
   refine hk12 _ _ ?_
   refine Run.seq fun k14 hk14 => ?_
   refine Run.regionD (M := [0, 1, 3, 7, 15, 0, 32, 96, 224, 480, 1023, 2047]) (q := 4095) (r := 528) (by kernel_rfl) ?_
   refine Dw.pure (i := 0) rfl (by kernel_rfl) (Want.none rfl) rfl (ltN rfl) (QP.move rfl rfl) ?_
   refine Dw.pure (i := 1) rfl (by kernel_rfl) (Want.none rfl) rfl (ltN rfl) (QP.nilCheck rfl rfl) ?_
   refine Dw.pure (i := 2) rfl (by kernel_rfl) (Want.none rfl) rfl (ltN rfl) (QP.fieldAddr rfl rfl f54_2) ?_
   refine Dw.pure (i := 3) rfl (by kernel_rfl) (Want.none rfl) rfl (ltN rfl) (QP.fieldAddr rfl rfl f51_0) ?_
   refine Dw.read (i := 4) rfl (by kernel_rfl) (Want.none rfl) rfl (ltN rfl) (QR.load1 rfl rfl g30 ((Neighbour.sub_multi _).trans (History.sub_bits _))) ?_
   refine Dw.pure (i := 5) rfl (by kernel_rfl) (Want.none rfl) rfl (ltN rfl) (QP.move rfl rfl) ?_
   refine Dw.pure (i := 6) rfl (by kernel_rfl) (Want.none rfl) rfl (ltN rfl) (QP.nilCheck rfl rfl) ?_
   refine Dw.pure (i := 7) rfl (by kernel_rfl) (Want.none rfl) rfl (ltN rfl) (QP.fieldAddr rfl rfl f54_3) ?_
   refine Dw.pure (i := 8) rfl (by kernel_rfl) (Want.none rfl) rfl (ltN rfl) (QP.fieldAddr rfl rfl f51_0) ?_
   refine Dw.read (i := 9) rfl (by kernel_rfl) (Want.none rfl) rfl (ltN rfl) (QR.load1 rfl rfl g30 ((Neighbour.sub_uni _).trans (History.sub_bits _))) ?_
   refine Dw.pure (i := 10) rfl (by kernel_rfl) (Want.none rfl) rfl (ltN rfl) (QP.or16 rfl rfl rfl) ?_
   refine Dw.pure (i := 11) rfl (by kernel_rfl) (Want.none rfl) rfl (ltN rfl) (QP.eql rfl rfl rfl) ?_
   refine J.caseD (fun c69 => ?_) (fun c69 => ?_)
   ·skip
    refine Dw.nil (by kernel_rfl) ?_
    refine hk14 _ _ ?_
    refine Run.cond_t rfl ?_
    refine Run.seq fun k15 hk15 => ?_
    refine Run.region ?_
    show Sq _ _ _ [0, 1, 2, 3, 4, 5, 6] _ _ _ _
    refine Sq.quiet (i := 0) rfl (Want.none rfl) rfl (ltN rfl) (QP.move rfl rfl).read ?_
    refine Sq.quiet (i := 1) rfl (Want.none rfl) rfl (ltN rfl) (QP.move rfl rfl).read ?_
    refine Sq.quiet (i := 2) rfl (Want.none rfl) rfl (ltN rfl) (QP.nilCheck rfl rfl).read ?_
    refine Sq.quiet (i := 3) rfl (Want.none rfl) rfl (ltN rfl) (QR.load rfl rfl g54 (Neighbour.enc_sub _)) ?_
    refine Sq.eff (i := 4) rfl (Want.none rfl) rfl (ltN rfl) (EF.buildSlice1 rfl Try.underlying44 z54 zero54 (by simp [Value.cells, Neighbour.enc_len]) (by decide) rfl rfl (Neighbour.enc_len _) (by decide)) ?_
    rintro _ _ ⟨b74, rfl, rfl⟩
    refine Sq.eff (i := 5) rfl (Want.none rfl) rfl (ltN rfl) (EF.append1 (xs := (((L.take i).filter (goneN now)).map (tickR now))) (s := _) el54 Neighbour.enc_len Neighbour.enc_cell rfl rfl rfl Try.underlying44 Try.underlying44 rfl rfl (by repeat constructor) (by repeat constructor) (by first | omega | (simp <;> omega))) ?_
    rintro sl75 _ rfl
    refine Sq.quiet (i := 6) rfl (Want.none rfl) rfl (ltN rfl) (QP.assign rfl rfl).read ?_
    refine Sq.nil ?_
    refine hk15 _ _ ?_
    refine Run.regionD (M := [0, 1, 3, 7, 0, 16, 0, 64, 240, 511]) (q := 511) (r := 168) (by kernel_rfl) ?_
    refine Dw.pure (i := 0) rfl (by kernel_rfl) (Want.none rfl) rfl (ltN rfl) (QP.move rfl rfl) ?_
    refine Dw.pure (i := 1) rfl (by kernel_rfl) (Want.none rfl) rfl (ltN rfl) (QP.nilCheck rfl rfl) ?_
    refine Dw.pure (i := 2) rfl (by kernel_rfl) (Want.none rfl) rfl (ltN rfl) (QP.fieldAddr rfl rfl f77_2) ?_
    refine Dw.read (i := 3) rfl (by kernel_rfl) (Want.none rfl) rfl (ltN rfl) (QR.load1 rfl rfl g75 (NeighTable.sub_m _)) ?_
    refine Dw.pure (i := 4) rfl (by kernel_rfl) (Want.none rfl) rfl (ltN rfl) (QP.fieldAddr rfl rfl f54_0) ?_
    refine Dw.read (i := 5) rfl (by kernel_rfl) (Want.none rfl) rfl (ltN rfl) (QR.load1 rfl rfl g3 (Neighbour.sub_if_ _)) ?_
    refine Dw.pure (i := 6) rfl (by kernel_rfl) (Want.none rfl) rfl (ltN rfl) (QP.fieldAddr rfl rfl f54_1) ?_
    refine Dw.read (i := 7) rfl (by kernel_rfl) (Want.none rfl) rfl (ltN rfl) (QR.load rfl rfl g29 (Neighbour.sub_addr _)) ?_
    refine Dw.pure (i := 8) rfl (by kernel_rfl) (Want.none rfl) rfl (ltN rfl) (QP.build (l := NeighKey.enc ⟨((e.2.2).if_), ((e.2.2).addr)⟩) rfl st81 rfl (by exact ⟨rfl, ⟨(congrArg some (Bs.len _).symm), trivial⟩⟩) rfl) ?_
    rw [show (⟨e.2.2.if_, e.2.2.addr⟩ : NeighKey) = e.1 from hkey.symm]
    refine Dw.eff (i := 9) (by kernel_rfl) (by kernel_rfl) ?_
    refine One.act (o := _) (l := []) rfl (by kernel_rfl) (Want.none rfl) rfl (EF.delete key81 rfl rfl rfl rfl Try.underlying75) (by kernel_rfl) ?_
    rintro _ _ rfl
    refine ⟨fun _ h => (by cases h), ?_⟩
    refine Dw.nil (by kernel_rfl) ?_
    refine hk7 _ _ ?_
    refine Run.region ?_
    show Sq _ _ _ [0, 1] _ _ _ _
    have htick : tickR now e.2.2 = X2 := by unfold tickR; rw [hX]; unfold txR; rw [if_pos c54]; exact hX2
    have hgone : goneN now e.2.2 = true := by unfold goneN; rw [htick]; exact decide_eq_true c69
    have hst := step_none (g := tickG now) (E := E) hi (by unfold tickG; rw [hgone]; rfl)
    rw [← hst]
    have hx2 := fm_succ (goneN now) (tickR now) hx
    rw [hgone, htick] at hx2
    simp only [if_true, if_false, Bool.false_eq_true, List.append_nil] at hx2
    refine Sq.slEq (v := sl75) (by repeat constructor) hx2.symm ?_
    refine Sq.quiet (i := 0) rfl (Want.none rfl) rfl (ltN rfl) (QP.add64 rfl rfl rfl (by first | omega | (simp <;> omega)) (by first | omega | (simp <;> omega))).read ?_
    refine Sq.quiet (i := 1) rfl (Want.none rfl) rfl (ltN rfl) (QP.move rfl rfl).read ?_
    refine Sq.nil ?_
    exact J.envJ (J.keep (.cons (by repeat constructor) (.cons (by repeat constructor) (.cons (by repeat constructor) (.cons (by repeat constructor) (.cons (by repeat constructor) Takes.nil))))) (hl4 (i + 1) (adel Pm e.1) (sl75) (⟨by omega, by rw [hst, ptrs_adel, hPm]⟩) (by omega))) ⟨rfl, rfl, rfl, rfl, rfl, rfl, trivial⟩
   ·skip
    refine Dw.nil (by kernel_rfl) ?_
    refine hk14 _ _ ?_
    refine Run.cond_f rfl ?_
    refine Run.skip ?_
    refine hk7 _ _ ?_
    refine Run.region ?_
    show Sq _ _ _ [0, 1] _ _ _ _
    have htick : tickR now e.2.2 = X2 := by unfold tickR; rw [hX]; unfold txR; rw [if_pos c54]; exact hX2
    have hgone : goneN now e.2.2 = false := by unfold goneN; rw [htick]; exact decide_eq_false c69
    have hst := step_some (g := tickG now) (E := E) hi (show tickG now e.2.2 = some X2 from by unfold tickG; rw [hgone, htick]; rfl)
    refine Sq.close (A := rowsA Neighbour.enc 54 (stepE (tickG now) E (es.take (i + 1)))) (m := [blk e.2.1 (Neighbour.enc X2) 54, rowsA Neighbour.enc 54 (adel (stepE (tickG now) E (es.take i)) e.1)]) (.cons (by repeat constructor) (.cons (by repeat constructor) Takes.nil)) (fun _ g => by rw [hst]; exact rowsA_close hlook g) ?_
    have hx2 := fm_succ (goneN now) (tickR now) hx
    rw [hgone, htick] at hx2
    simp only [if_true, if_false, Bool.false_eq_true, List.append_nil] at hx2
    refine Sq.slEq (v := va) (by repeat constructor) hx2.symm ?_
    refine Sq.quiet (i := 0) rfl (Want.none rfl) rfl (ltN rfl) (QP.add64 rfl rfl rfl (by first | omega | (simp <;> omega)) (by first | omega | (simp <;> omega))).read ?_
    refine Sq.quiet (i := 1) rfl (Want.none rfl) rfl (ltN rfl) (QP.move rfl rfl).read ?_
    refine Sq.nil ?_
    exact J.envJ (J.keep (.cons (by repeat constructor) (.cons (by repeat constructor) (.cons (by repeat constructor) (.cons (by repeat constructor) (.cons (by repeat constructor) Takes.nil))))) (hl4 (i + 1) (Pm) (va) (⟨by omega, by rw [hst, ptrs_step hlook]; exact hPm⟩) (by omega))) ⟨rfl, rfl, rfl, rfl, rfl, rfl, trivial⟩
  ·skip
   refine Sq.nil ?_
   refine hk13 _ _ ?_
   refine Run.cond_f rfl ?_
   refine Run.skip ?_
   refine hk12 _ _ ?_
   refine Run.seq fun k16 hk16 => ?_
   refine Run.regionD (M := [0, 1, 3, 7, 15, 0, 32, 96, 224, 480, 1023, 2047]) (q := 4095) (r := 528) (by kernel_rfl) ?_
   refine Dw.pure (i := 0) rfl (by kernel_rfl) (Want.none rfl) rfl (ltN rfl) (QP.move rfl rfl) ?_
   refine Dw.pure (i := 1) rfl (by kernel_rfl) (Want.none rfl) rfl (ltN rfl) (QP.nilCheck rfl rfl) ?_
   refine Dw.pure (i := 2) rfl (by kernel_rfl) (Want.none rfl) rfl (ltN rfl) (QP.fieldAddr rfl rfl f54_2) ?_
   refine Dw.pure (i := 3) rfl (by kernel_rfl) (Want.none rfl) rfl (ltN rfl) (QP.fieldAddr rfl rfl f51_0) ?_
   refine Dw.read (i := 4) rfl (by kernel_rfl) (Want.none rfl) rfl (ltN rfl) (QR.load1 rfl rfl g30 ((Neighbour.sub_multi _).trans (History.sub_bits _))) ?_
   refine Dw.pure (i := 5) rfl (by kernel_rfl) (Want.none rfl) rfl (ltN rfl) (QP.move rfl rfl) ?_
   refine Dw.pure (i := 6) rfl (by kernel_rfl) (Want.none rfl) rfl (ltN rfl) (QP.nilCheck rfl rfl) ?_
   refine Dw.pure (i := 7) rfl (by kernel_rfl) (Want.none rfl) rfl (ltN rfl) (QP.fieldAddr rfl rfl f54_3) ?_
   refine Dw.pure (i := 8) rfl (by kernel_rfl) (Want.none rfl) rfl (ltN rfl) (QP.fieldAddr rfl rfl f51_0) ?_
   refine Dw.read (i := 9) rfl (by kernel_rfl) (Want.none rfl) rfl (ltN rfl) (QR.load1 rfl rfl g30 ((Neighbour.sub_uni _).trans (History.sub_bits _))) ?_
   refine Dw.pure (i := 10) rfl (by kernel_rfl) (Want.none rfl) rfl (ltN rfl) (QP.or16 rfl rfl rfl) ?_
   refine Dw.pure (i := 11) rfl (by kernel_rfl) (Want.none rfl) rfl (ltN rfl) (QP.eql rfl rfl rfl) ?_
   refine J.caseD (fun c69 => ?_) (fun c69 => ?_)
   ·skip
    refine Dw.nil (by kernel_rfl) ?_
    refine hk16 _ _ ?_
    refine Run.cond_t rfl ?_
    refine Run.seq fun k17 hk17 => ?_
    refine Run.region ?_
    show Sq _ _ _ [0, 1, 2, 3, 4, 5, 6] _ _ _ _
    refine Sq.quiet (i := 0) rfl (Want.none rfl) rfl (ltN rfl) (QP.move rfl rfl).read ?_
    refine Sq.quiet (i := 1) rfl (Want.none rfl) rfl (ltN rfl) (QP.move rfl rfl).read ?_
    refine Sq.quiet (i := 2) rfl (Want.none rfl) rfl (ltN rfl) (QP.nilCheck rfl rfl).read ?_
    refine Sq.quiet (i := 3) rfl (Want.none rfl) rfl (ltN rfl) (QR.load rfl rfl g54 (Neighbour.enc_sub _)) ?_
    refine Sq.eff (i := 4) rfl (Want.none rfl) rfl (ltN rfl) (EF.buildSlice1 rfl Try.underlying44 z54 zero54 (by simp [Value.cells, Neighbour.enc_len]) (by decide) rfl rfl (Neighbour.enc_len _) (by decide)) ?_
    rintro _ _ ⟨b74, rfl, rfl⟩
    refine Sq.eff (i := 5) rfl (Want.none rfl) rfl (ltN rfl) (EF.append1 (xs := (((L.take i).filter (goneN now)).map (tickR now))) (s := _) el54 Neighbour.enc_len Neighbour.enc_cell rfl rfl rfl Try.underlying44 Try.underlying44 rfl rfl (by repeat constructor) (by repeat constructor) (by first | omega | (simp <;> omega))) ?_
    rintro sl75 _ rfl
    refine Sq.quiet (i := 6) rfl (Want.none rfl) rfl (ltN rfl) (QP.assign rfl rfl).read ?_
    refine Sq.nil ?_
    refine hk17 _ _ ?_
    refine Run.regionD (M := [0, 1, 3, 7, 0, 16, 0, 64, 240, 511]) (q := 511) (r := 168) (by kernel_rfl) ?_
    refine Dw.pure (i := 0) rfl (by kernel_rfl) (Want.none rfl) rfl (ltN rfl) (QP.move rfl rfl) ?_
    refine Dw.pure (i := 1) rfl (by kernel_rfl) (Want.none rfl) rfl (ltN rfl) (QP.nilCheck rfl rfl) ?_
    refine Dw.pure (i := 2) rfl (by kernel_rfl) (Want.none rfl) rfl (ltN rfl) (QP.fieldAddr rfl rfl f77_2) ?_
    refine Dw.read (i := 3) rfl (by kernel_rfl) (Want.none rfl) rfl (ltN rfl) (QR.load1 rfl rfl g75 (NeighTable.sub_m _)) ?_
    refine Dw.pure (i := 4) rfl (by kernel_rfl) (Want.none rfl) rfl (ltN rfl) (QP.fieldAddr rfl rfl f54_0) ?_
    refine Dw.read (i := 5) rfl (by kernel_rfl) (Want.none rfl) rfl (ltN rfl) (QR.load1 rfl rfl g3 (Neighbour.sub_if_ _)) ?_
    refine Dw.pure (i := 6) rfl (by kernel_rfl) (Want.none rfl) rfl (ltN rfl) (QP.fieldAddr rfl rfl f54_1) ?_
    refine Dw.read (i := 7) rfl (by kernel_rfl) (Want.none rfl) rfl (ltN rfl) (QR.load rfl rfl g29 (Neighbour.sub_addr _)) ?_
    refine Dw.pure (i := 8) rfl (by kernel_rfl) (Want.none rfl) rfl (ltN rfl) (QP.build (l := NeighKey.enc ⟨((e.2.2).if_), ((e.2.2).addr)⟩) rfl st81 rfl (by exact ⟨rfl, ⟨(congrArg some (Bs.len _).symm), trivial⟩⟩) rfl) ?_
    rw [show (⟨e.2.2.if_, e.2.2.addr⟩ : NeighKey) = e.1 from hkey.symm]
    refine Dw.eff (i := 9) (by kernel_rfl) (by kernel_rfl) ?_
    refine One.act (o := _) (l := []) rfl (by kernel_rfl) (Want.none rfl) rfl (EF.delete key81 rfl rfl rfl rfl Try.underlying75) (by kernel_rfl) ?_
    rintro _ _ rfl
    refine ⟨fun _ h => (by cases h), ?_⟩
    refine Dw.nil (by kernel_rfl) ?_
    refine hk7 _ _ ?_
    refine Run.region ?_
    show Sq _ _ _ [0, 1] _ _ _ _
    have htick : tickR now e.2.2 = X := by unfold tickR; rw [hX]; unfold txR; rw [if_neg c54]
    have hgone : goneN now e.2.2 = true := by unfold goneN; rw [htick]; exact decide_eq_true c69
    have hst := step_none (g := tickG now) (E := E) hi (by unfold tickG; rw [hgone]; rfl)
    rw [← hst]
    have hx2 := fm_succ (goneN now) (tickR now) hx
    rw [hgone, htick] at hx2
    simp only [if_true, if_false, Bool.false_eq_true, List.append_nil] at hx2
    refine Sq.slEq (v := sl75) (by repeat constructor) hx2.symm ?_
    refine Sq.quiet (i := 0) rfl (Want.none rfl) rfl (ltN rfl) (QP.add64 rfl rfl rfl (by first | omega | (simp <;> omega)) (by first | omega | (simp <;> omega))).read ?_
    refine Sq.quiet (i := 1) rfl (Want.none rfl) rfl (ltN rfl) (QP.move rfl rfl).read ?_
    refine Sq.nil ?_
    exact J.envJ (J.keep (.cons (by repeat constructor) (.cons (by repeat constructor) (.cons (by repeat constructor) (.cons (by repeat constructor) (.cons (by repeat constructor) Takes.nil))))) (hl4 (i + 1) (adel Pm e.1) (sl75) (⟨by omega, by rw [hst, ptrs_adel, hPm]⟩) (by omega))) ⟨rfl, rfl, rfl, rfl, rfl, rfl, trivial⟩
   ·skip
    refine Dw.nil (by kernel_rfl) ?_
    refine hk16 _ _ ?_
    refine Run.cond_f rfl ?_
    refine Run.skip ?_
    refine hk7 _ _ ?_
    refine Run.region ?_
    show Sq _ _ _ [0, 1] _ _ _ _
    have htick : tickR now e.2.2 = X := by unfold tickR; rw [hX]; unfold txR; rw [if_neg c54]
    have hgone : goneN now e.2.2 = false := by unfold goneN; rw [htick]; exact decide_eq_false c69
    have hst := step_some (g := tickG now) (E := E) hi (show tickG now e.2.2 = some X from by unfold tickG; rw [hgone, htick]; rfl)
    refine Sq.close (A := rowsA Neighbour.enc 54 (stepE (tickG now) E (es.take (i + 1)))) (m := [blk e.2.1 (Neighbour.enc X) 54, rowsA Neighbour.enc 54 (adel (stepE (tickG now) E (es.take i)) e.1)]) (.cons (by repeat constructor) (.cons (by repeat constructor) Takes.nil)) (fun _ g => by rw [hst]; exact rowsA_close hlook g) ?_
    have hx2 := fm_succ (goneN now) (tickR now) hx
    rw [hgone, htick] at hx2
    simp only [if_true, if_false, Bool.false_eq_true, List.append_nil] at hx2
    refine Sq.slEq (v := va) (by repeat constructor) hx2.symm ?_
    refine Sq.quiet (i := 0) rfl (Want.none rfl) rfl (ltN rfl) (QP.add64 rfl rfl rfl (by first | omega | (simp <;> omega)) (by first | omega | (simp <;> omega))).read ?_
    refine Sq.quiet (i := 1) rfl (Want.none rfl) rfl (ltN rfl) (QP.move rfl rfl).read ?_
    refine Sq.nil ?_
    exact J.envJ (J.keep (.cons (by repeat constructor) (.cons (by repeat constructor) (.cons (by repeat constructor) (.cons (by repeat constructor) (.cons (by repeat constructor) Takes.nil))))) (hl4 (i + 1) (Pm) (va) (⟨by omega, by rw [hst, ptrs_step hlook]; exact hPm⟩) (by omega))) ⟨rfl, rfl, rfl, rfl, rfl, rfl, trivial⟩
 ·skip
  refine Sq.nil ?_
  refine hk5 _ _ ?_
  refine Run.seq fun k18 hk18 => ?_
  refine Run.cond_f rfl ?_
  refine Run.exit rfl ?_
  refine hk2 _ _ ?_
  refine Run.seq fun k19 hk19 => ?_
  refine Run.region ?_
  show Sq _ _ _ [0, 1] _ _ _ _
  refine Sq.quiet (i := 0) rfl (Want.none rfl) rfl (ltN rfl) (QP.move rfl rfl).read ?_
  refine Sq.quiet (i := 1) rfl (Want.none rfl) rfl (ltN rfl) (QP.assign rfl rfl).read ?_
  refine Sq.nil ?_
  refine hk19 _ _ ?_
  refine Run.ret ?_
  have hty : es.take i = es := List.take_of_length_le (by omega)
  have htl : L.take i = L := List.take_of_length_le (by omega)
  rw [hty] at hPm
  subst hPm
  rw [hty, htl]
  exact J.ends (res_tmp rfl rfl) (.cons (by repeat constructor) (.cons (by repeat constructor) (.cons (by repeat constructor) (.cons (by repeat constructor) Takes.nil)))) ⟨r, E, es, L, hv, hn, hp, hL, hs, rfl⟩

theorem dropT0 (F : Fr) {b : Nat} {most : Int} {q : Slc} {M : TabN} (hM : M.length ≤ 1000000) (hk : KeyedN M) {a : Option Addr} {xs : List Int} {c : Nat} (hlen : xs.length ≤ 4294967296) (ha : ArgSl F a 1 (fun n => [Value.int .i64 n]) xs) : Spec Try.prog 21 #[.pointer (some ⟨b, 0, none⟩), .slice a xs.length c] [NTab b most q M] F (fun v S => ∃ (r : Nat) (E es : EntN) (L : List Neighbour), vals E = M ∧ (E.map (·.1)).Nodup ∧ es.Perm E ∧ L = es.map (·.2.2) ∧ SortedN L ∧ v = .int .i64 (L.filter fun s => decide (s.if_.val ∈ xs)).length ∧ S = [blk b (NeighTable.enc ⟨most, q, some r⟩) 77, mapN r (ptrs (stepE (dropG xs) E es)), rowsA Neighbour.enc 54 (stepE (dropG xs) E es)]) := by
 refine Spec.intro (N := 31) (args := [.pointer (some ⟨b, 0, none⟩), .slice a xs.length c]) Try.func21 rfl rfl (by simp) ?_
 refine Run.seq fun k1 hk1 => ?_
 refine Run.region ?_
 show Sq _ _ _ [0] _ _ _ _
 refine Sq.quiet (i := 0) rfl (Want.none rfl) rfl (ltN rfl) (QP.assign rfl rfl).read ?_
 refine Sq.nil ?_
 refine hk1 _ _ ?_
 refine Run.seq fun k2 hk2 => ?_
 refine Run.seq fun k3 hk3 => ?_
 refine Run.region ?_
 show Sq _ _ _ [0, 1, 2, 3] _ _ _ _
 refine Sq.quiet (i := 0) rfl (Want.none rfl) rfl (ltN rfl) (QP.move rfl rfl).read ?_
 refine Sq.eff (i := 1) rfl (Want.none rfl) rfl (ltN rfl) (EF.call rfl ce13 rfl (.cons (by repeat constructor) Takes.nil) (fun F' hle hr => listO F' hM)) ?_
 rintro v8 _ ⟨_, ⟨r, E, es, L, hv, hn, hp, hL, hs, rfl⟩, rfl⟩
 refine J.app ?_
 refine Sq.slCase (v := v8) (xs := L) (by repeat constructor) (fun a8 c8 hv8 hh8 => ?_)
 subst hv8
 have hLl : L.length = es.length := by rw [hL, List.length_map]
 have hyl : es.length = E.length := hp.length_eq
 have hEl : E.length = M.length := by rw [← hv, lenN]
 refine Sq.quiet (i := 2) rfl (Want.none rfl) rfl (ltN rfl) (QP.len rfl rfl rfl Try.underlying44).read ?_
 refine Sq.quiet (i := 3) rfl (Want.none rfl) rfl (ltN rfl) (QP.move rfl rfl).read ?_
 refine Sq.nil ?_
 refine hk3 _ _ ?_
 refine Run.block ?_
 refine Run.loop2 (fun (i : Nat) (Pm : List (NeighKey × Nat)) => i ≤ es.length ∧ Pm = ptrs (stepE (dropG xs) E (es.take i))) (fun i Pm => .cons 0 (.pointer (some ⟨b, 0, none⟩)) (.cons 1 (.slice a xs.length c) (.cons 4 (.int .i64 ((L.take i).filter fun s => decide (s.if_.val ∈ xs)).length) (.cons 8 (.slice a8 L.length c8) (.cons 9 (.int .i64 L.length) (.cons 10 (.int .i64 i) (.nil))))))) (fun i Pm => [blk b (NeighTable.enc ⟨most, q, some r⟩) 77, mapN r Pm, rowsA Neighbour.enc 54 (stepE (dropG xs) E (es.take i)), slA 54 34 Neighbour.enc (.slice a8 L.length c8) L]) (fun i Pm => es.length - i) (0) (ptrs E) (⟨Nat.zero_le _, rfl⟩) ?_ ?_
 ·exact fun _ j => J.envJ (J.keep (.cons (by repeat constructor) (.cons (by repeat constructor) (.cons (by repeat constructor) (.cons (by repeat constructor) Takes.nil)))) j) ⟨rfl, rfl, rfl, rfl, rfl, rfl, trivial⟩
 rintro i Pm ⟨hile, hPm⟩ kl4 hl4
 refine Run.seq fun k5 hk5 => ?_
 refine Run.region ?_
 show Sq _ _ _ [0] _ _ _ _
 refine Sq.quiet (i := 0) rfl (Want.none rfl) rfl (ltN rfl) (QP.lss rfl rfl rfl).read ?_
 refine J.caseD (fun c11 => ?_) (fun c11 => ?_)
 ·skip
  refine Sq.nil ?_
  refine hk5 _ _ ?_
  refine Run.seq fun k6 hk6 => ?_
  refine Run.cond_t rfl ?_
  refine Run.skip ?_
  refine hk6 _ _ ?_
  refine Run.seq fun k7 hk7 => ?_
  refine Run.block ?_
  refine Run.seq fun k8 hk8 => ?_
  refine Run.region ?_
  show Sq _ _ _ [0, 1, 2, 3] _ _ _ _
  have hlt : i < es.length := by omega
  obtain ⟨e, hi⟩ : ∃ e, es[i]? = some e := ⟨_, List.getElem?_eq_getElem hlt⟩
  have hx : L[i]? = some e.2.2 := by rw [hL, List.getElem?_map, hi]; rfl
  obtain ⟨b0, o0, rfl⟩ := hh8.get (by omega)
  have hlook : alook (stepE (dropG xs) E (es.take i)) e.1 = some (e.2.1, e.2.2) := stepE_look hn hp hi
  have hmem := mem_of_es hv hp hi
  have hkey : e.1 = keyN e.2.2 := hk _ hmem
  have hlk : alook Pm ⟨e.2.2.if_, e.2.2.addr⟩ = some e.2.1 := by rw [hPm, show (⟨e.2.2.if_, e.2.2.addr⟩ : NeighKey) = e.1 from hkey.symm, alook_ptrs, hlook]; rfl
  have hfl : ((L.take i).filter fun s => decide (s.if_.val ∈ xs)).length ≤ 1000000 := by
    have := List.length_filter_le (fun s : Neighbour => decide (s.if_.val ∈ xs)) (L.take i)
    have := List.length_take_le i L
    omega
  refine Sq.quiet (i := 0) rfl (Want.none rfl) rfl (ltN rfl) (QP.indexAddr rfl rfl rfl Try.underlying44 z54 (by first | omega | (simp <;> omega)) (by first | omega | (simp <;> omega))).read ?_
  refine Sq.quiet (i := 1) rfl (Want.none rfl) rfl (ltN rfl) (QR.loadSl rfl rfl g54 Neighbour.enc_len (SlAt.own Neighbour.enc_len (by repeat constructor)) hx) ?_
  refine Sq.eff (i := 2) rfl (Want.none rfl) rfl (ltN rfl) (EF.allocA (l := Neighbour.enc Neighbour.zero) rfl zero54) ?_
  rintro _ _ ⟨b6, rfl, rfl⟩
  refine Sq.act (i := 3) rfl (Want.none rfl) rfl (EF.storeA rfl rfl rfl z54 (SetL.all (Neighbour.enc_len _) (Neighbour.enc_len _)) (Neighbour.enc_cell _)) ?_
  rintro _ _ rfl
  refine Sq.nil ?_
  refine hk8 _ _ ?_
  refine Run.seq fun k9 hk9 => ?_
  refine Run.region ?_
  show Sq _ _ _ [0, 1, 2, 3] _ _ _ _
  refine Sq.quiet (i := 0) rfl (Want.none rfl) rfl (ltN rfl) (QP.move rfl rfl).read ?_
  refine Sq.quiet (i := 1) rfl (Want.none rfl) rfl (ltN rfl) (QP.fieldAddr rfl rfl f54_0).read ?_
  refine Sq.quiet (i := 2) rfl (Want.none rfl) rfl (ltN rfl) (QR.load1 rfl rfl g3 (Neighbour.sub_if_ _)) ?_
  refine Sq.eff (i := 3) rfl (Want.none rfl) rfl (ltN rfl) (EF.call rfl ce41 rfl Takes.nil (fun F' hle hr => containsI F' hlen (ha.mono hle) e.2.2.if_.val)) ?_
  rintro _ _ ⟨_, ⟨rfl, rfl⟩, rfl⟩
  refine J.app ?_
  refine J.caseD (fun c17 => ?_) (fun c17 => ?_)
  ·skip
   refine Sq.nil ?_
   refine hk9 _ _ ?_
   refine Run.cond_t rfl ?_
   refine Run.seq fun k10 hk10 => ?_
   refine Run.regionD (M := [0, 1, 3, 7, 0, 16, 0, 64, 240, 511]) (q := 511) (r := 168) (by kernel_rfl) ?_
   refine J.openE (by repeat constructor) (fun _ g => rowsA_open (c := e.2.1) (s := e.2.2) hlook g) fun _ => ?_
   refine J.app ?_
   refine Dw.pure (i := 0) rfl (by kernel_rfl) (Want.none rfl) rfl (ltN rfl) (QP.move rfl rfl) ?_
   refine Dw.pure (i := 1) rfl (by kernel_rfl) (Want.none rfl) rfl (ltN rfl) (QP.nilCheck rfl rfl) ?_
   refine Dw.pure (i := 2) rfl (by kernel_rfl) (Want.none rfl) rfl (ltN rfl) (QP.fieldAddr rfl rfl f77_2) ?_
   refine Dw.read (i := 3) rfl (by kernel_rfl) (Want.none rfl) rfl (ltN rfl) (QR.load1 rfl rfl g75 (NeighTable.sub_m _)) ?_
   refine Dw.pure (i := 4) rfl (by kernel_rfl) (Want.none rfl) rfl (ltN rfl) (QP.fieldAddr rfl rfl f54_0) ?_
   refine Dw.read (i := 5) rfl (by kernel_rfl) (Want.none rfl) rfl (ltN rfl) (QR.load1 rfl rfl g3 (Neighbour.sub_if_ _)) ?_
   refine Dw.pure (i := 6) rfl (by kernel_rfl) (Want.none rfl) rfl (ltN rfl) (QP.fieldAddr rfl rfl f54_1) ?_
   refine Dw.read (i := 7) rfl (by kernel_rfl) (Want.none rfl) rfl (ltN rfl) (QR.load rfl rfl g29 (Neighbour.sub_addr _)) ?_
   refine Dw.pure (i := 8) rfl (by kernel_rfl) (Want.none rfl) rfl (ltN rfl) (QP.build (l := NeighKey.enc ⟨((e.2.2).if_), ((e.2.2).addr)⟩) rfl st81 rfl (by exact ⟨rfl, ⟨(congrArg some (Bs.len _).symm), trivial⟩⟩) rfl) ?_
   rw [show (⟨e.2.2.if_, e.2.2.addr⟩ : NeighKey) = e.1 from hkey.symm]
   refine Dw.eff (i := 9) (by kernel_rfl) (by kernel_rfl) ?_
   refine One.act (o := _) (l := []) rfl (by kernel_rfl) (Want.none rfl) rfl (EF.delete key81 rfl rfl rfl rfl Try.underlying75) (by kernel_rfl) ?_
   rintro _ _ rfl
   refine ⟨fun _ h => (by cases h), ?_⟩
   refine Dw.nil (by kernel_rfl) ?_
   refine hk10 _ _ ?_
   refine Run.region ?_
   show Sq _ _ _ [0, 1, 2] _ _ _ _
   refine Sq.quiet (i := 0) rfl (Want.none rfl) rfl (ltN rfl) (QP.move rfl rfl).read ?_
   refine Sq.quiet (i := 1) rfl (Want.none rfl) rfl (ltN rfl) (QP.add64 rfl rfl rfl (by first | omega | (simp <;> omega)) (by first | omega | (simp <;> omega))).read ?_
   refine Sq.quiet (i := 2) rfl (Want.none rfl) rfl (ltN rfl) (QP.assign rfl rfl).read ?_
   refine Sq.nil ?_
   refine hk7 _ _ ?_
   refine Run.region ?_
   show Sq _ _ _ [0, 1] _ _ _ _
   have hst := step_none (g := dropG xs) (E := E) hi (by unfold dropG; rw [if_pos c17])
   rw [← hst]
   refine Sq.quiet (i := 0) rfl (Want.none rfl) rfl (ltN rfl) (QP.add64 rfl rfl rfl (by first | omega | (simp <;> omega)) (by first | omega | (simp <;> omega))).read ?_
   refine Sq.quiet (i := 1) rfl (Want.none rfl) rfl (ltN rfl) (QP.move rfl rfl).read ?_
   refine Sq.nil ?_
   exact J.envJ (J.keep (.cons (by repeat constructor) (.cons (by repeat constructor) (.cons (by repeat constructor) (.cons (by repeat constructor) Takes.nil)))) (hl4 (i + 1) (adel Pm e.1) (⟨by omega, by rw [hst, ptrs_adel, hPm]⟩) (by omega))) ⟨rfl, rfl, (congrArg (fun n : Nat => some (Value.int .i64 n)) (show _ = _ from by rw [filter_succ _ hx]; simp [c17])), rfl, rfl, rfl, trivial⟩
  ·skip
   refine Sq.nil ?_
   refine hk9 _ _ ?_
   refine Run.cond_f rfl ?_
   refine Run.skip ?_
   refine hk7 _ _ ?_
   refine Run.region ?_
   show Sq _ _ _ [0, 1] _ _ _ _
   have hst : stepE (dropG xs) E (es.take (i + 1)) = stepE (dropG xs) E (es.take i) := by rw [step_some (g := dropG xs) (E := E) hi (show dropG xs e.2.2 = some e.2.2 by unfold dropG; rw [if_neg c17])]; exact aset_same hlook
   rw [← hst]
   refine Sq.quiet (i := 0) rfl (Want.none rfl) rfl (ltN rfl) (QP.add64 rfl rfl rfl (by first | omega | (simp <;> omega)) (by first | omega | (simp <;> omega))).read ?_
   refine Sq.quiet (i := 1) rfl (Want.none rfl) rfl (ltN rfl) (QP.move rfl rfl).read ?_
   refine Sq.nil ?_
   exact J.envJ (J.keep (.cons (by repeat constructor) (.cons (by repeat constructor) (.cons (by repeat constructor) (.cons (by repeat constructor) Takes.nil)))) (hl4 (i + 1) (Pm) (⟨by omega, by rw [hst]; exact hPm⟩) (by omega))) ⟨rfl, rfl, (congrArg (fun n : Nat => some (Value.int .i64 n)) (show _ = _ from by rw [filter_succ _ hx]; simp [c17])), rfl, rfl, rfl, trivial⟩
 ·skip
  refine Sq.nil ?_
  refine hk5 _ _ ?_
  refine Run.seq fun k11 hk11 => ?_
  refine Run.cond_f rfl ?_
  refine Run.exit rfl ?_
  refine hk2 _ _ ?_
  refine Run.seq fun k12 hk12 => ?_
  refine Run.region ?_
  show Sq _ _ _ [0, 1] _ _ _ _
  refine Sq.quiet (i := 0) rfl (Want.none rfl) rfl (ltN rfl) (QP.move rfl rfl).read ?_
  refine Sq.quiet (i := 1) rfl (Want.none rfl) rfl (ltN rfl) (QP.assign rfl rfl).read ?_
  refine Sq.nil ?_
  refine hk12 _ _ ?_
  refine Run.ret ?_
  have hty : es.take i = es := List.take_of_length_le (by omega)
  have htl : L.take i = L := List.take_of_length_le (by omega)
  rw [hty] at hPm
  subst hPm
  rw [hty, htl]
  exact J.ends (res_tmp rfl rfl) (.cons (by repeat constructor) (.cons (by repeat constructor) (.cons (by repeat constructor) Takes.nil))) ⟨r, E, es, L, hv, hn, hp, hL, hs, rfl, rfl⟩
end Slb
