/- A12: a part of the proof that a law of this package holds for every input; no condition. -/
import Derived.Test.YtjieokfcpbillaaA11
namespace Slb
open Go Go.Proofs
set_option maxRecDepth 20000
theorem set_same {α : Type} {L : List α} {k : Nat} {x : α} (h : L[k]? = some x) : L.set k x = L := by
  obtain ⟨h1, rfl⟩ := List.getElem?_eq_some_iff.1 h
  exact List.set_getElem_self _

set_option maxHeartbeats 4000000 in
theorem law_just (F : Fr) (q : IfConf) {a : Option Addr} {c : Nat} {xs : List Law21Act} (hc : xs.length ≤ 9223372036854775807) (ha : ArgSl F a 3 Law21Act.enc xs) (hw : ∀ x ∈ xs, ok41 F x)  : Spec Try.prog 3 #[.agg (IfConf.enc q).toArray, .slice a xs.length c] [] F (fun v S => v = .bool true ∧ S = []) := by
 obtain ⟨O, hO⟩ := Holds.of hw
 refine Spec.intro (N := 175) (args := [.agg (IfConf.enc q).toArray, .slice a xs.length c]) Try.func3 rfl rfl (by simp) ?_
 refine Run.seq fun k1 hk1 => ?_
 refine Run.region ?_
 show Sq _ _ _ [0, 1] _ _ _ _
 refine Sq.eff (i := 0) rfl (Want.none rfl) rfl (ltN rfl) (EF.boxA rfl rfl) ?_
 rintro _ _ ⟨b2, rfl, rfl⟩
 refine Sq.quiet (i := 1) rfl (Want.none rfl) rfl (ltN rfl) (QP.assign rfl rfl).read ?_
 refine Sq.nil ?_
 refine hk1 _ _ ?_
 refine Run.seq fun k2 hk2 => ?_
 refine Run.seq fun k3 hk3 => ?_
 refine Run.region ?_
 show Sq _ _ _ [0, 1, 2, 3, 4, 5, 6, 7, 8] _ _ _ _
 refine Sq.quiet (i := 0) rfl (Want.none rfl) rfl (ltN rfl) (QR.load rfl rfl g27 (IfConf.enc_sub _)) ?_
 refine Sq.eff (i := 1) rfl (Want.none rfl) rfl (ltN rfl) (EF.buildSlice1 rfl Try.underlying30 z27 zero27 (by simp [Value.cells, IfConf.enc_len]) (by decide) rfl rfl (IfConf.enc_len _) (by decide)) ?_
 rintro _ _ ⟨b19, rfl, rfl⟩
 refine Sq.eff (i := 2) rfl (Want.none rfl) rfl (ltN rfl) (EF.call rfl ce6 rfl Takes.nil (fun F' hle hr => right_spec F' (x := q) (hr b19 _ (by repeat constructor)))) ?_
 rintro _ _ ⟨_, ⟨r20, rfl, hr20, rfl⟩, rfl⟩
 refine J.app ?_
 refine J.caseB (fun c20 => ?_) (fun c20 => ?_)
 ·skip
  refine Sq.quiet (i := 3) rfl (Want.none rfl) rfl (ltN rfl) (QP.not rfl rfl).read ?_
  refine Sq.quiet (i := 4) rfl (Want.none rfl) rfl (ltN rfl) (QP.move rfl rfl).read ?_
  refine Sq.quiet (i := 5) rfl (Want.yes rfl rfl rfl rfl) rfl (ltN rfl) (QP.move rfl rfl).read ?_
  refine Sq.eff (i := 6) rfl (Want.yes rfl rfl rfl rfl) rfl (ltN rfl) (EF.call rfl ce7 rfl Takes.nil (fun F' hle hr => offers_spec F' hc (ha.mono hle) (hO.mono hle))) ?_
  rintro _ _ ⟨_, ⟨r24, rfl, hr24, rfl⟩, rfl⟩
  refine J.app ?_
  refine J.caseB (fun c24 => ?_) (fun c24 => ?_)
  ·skip
   refine Sq.quiet (i := 7) rfl (Want.yes rfl rfl rfl rfl) rfl (ltN rfl) (QP.not rfl rfl).read ?_
   refine Sq.quiet (i := 8) rfl (Want.none rfl) rfl (ltN rfl) (QP.pick_f rfl rfl rfl).read ?_
   refine Sq.nil ?_
   refine hk3 _ _ ?_
   refine Run.cond_f rfl ?_
   refine Run.skip ?_
   refine hk2 _ _ ?_
   refine Run.seq fun k4 hk4 => ?_
   refine Run.region ?_
   show Sq _ _ _ [0, 1, 2, 3] _ _ _ _
   refine Sq.quiet (i := 0) rfl (Want.none rfl) rfl (ltN rfl) (QR.load rfl rfl g27 (IfConf.enc_sub _)) ?_
   refine Sq.eff (i := 1) rfl (Want.none rfl) rfl (ltN rfl) (EF.buildSlice1 rfl Try.underlying30 z27 zero27 (by simp [Value.cells, IfConf.enc_len]) (by decide) rfl rfl (IfConf.enc_len _) (by decide)) ?_
   rintro _ _ ⟨b29, rfl, rfl⟩
   refine Sq.eff (i := 2) rfl (Want.none rfl) rfl (ltN rfl) (EF.call rfl ce9 rfl Takes.nil (fun F' hle hr => new_spec F' (argSl_one IfConf.enc_len (x := q) (hr b29 _ (by repeat constructor))))) ?_
   rintro _ _ ⟨_, ⟨kb, rfl, rfl⟩, rfl⟩
   refine J.app ?_
   refine Sq.quiet (i := 3) rfl (Want.none rfl) rfl (ltN rfl) (QP.assign rfl rfl).read ?_
   refine Sq.nil ?_
   refine hk4 _ _ ?_
   refine Run.seq fun k5 hk5 => ?_
   refine Run.seq fun k6 hk6 => ?_
   refine Run.region ?_
   show Sq _ _ _ [0, 1] _ _ _ _
   refine Sq.quiet (i := 0) rfl (Want.none rfl) rfl (ltN rfl) (QP.move rfl rfl).read ?_
   refine Sq.quiet (i := 1) rfl (Want.none rfl) rfl (ltN rfl) (QP.ptr_eq_nil rfl rfl rfl Try.underlying33).read ?_
   refine Sq.nil ?_
   refine hk6 _ _ ?_
   refine Run.cond_f rfl ?_
   refine Run.skip ?_
   refine hk5 _ _ ?_
   refine Run.seq fun k7 hk7 => ?_
   refine Run.region ?_
   show Sq _ _ _ [0] _ _ _ _
   have hop : OffersP O xs := hr24 (by simpa using c24)
   have hxl := hop.1
   refine J.addSl 45 34 Pair.enc ?_
   refine J.addSl 4 1 (fun b => [Value.bool b]) ?_
   refine Sq.quiet (i := 0) rfl (Want.none rfl) rfl (ltN rfl) (QP.assign rfl rfl).read ?_
   refine Sq.nil ?_
   refine hk7 _ _ ?_
   refine Run.seq fun k8 hk8 => ?_
   refine Run.region ?_
   show Sq _ _ _ [0] _ _ _ _
   refine Sq.quiet (i := 0) rfl (Want.none rfl) rfl (ltN rfl) (QP.assign rfl rfl).read ?_
   refine Sq.nil ?_
   refine hk8 _ _ ?_
   refine Run.seq fun k9 hk9 => ?_
   refine Run.seq fun k10 hk10 => ?_
   refine Run.region ?_
   show Sq _ _ _ [0] _ _ _ _
   refine Sq.quiet (i := 0) rfl (Want.none rfl) rfl (ltN rfl) (QP.assign rfl rfl).read ?_
   refine Sq.nil ?_
   refine hk10 _ _ ?_
   refine Run.block ?_
   refine Run.loop5 (fun (i : Nat) (M : TabB) (P : TabB) (vp : Value) (vu : Value) => i ≤ xs.length ∧ Agree M P ∧ M.length ≤ i * 150 ∧ P.length ≤ i * 150) (fun i M P vp vu => .cons 1 (.slice a xs.length c) (.cons 5 (fp kb) (.cons 6 (vp) (.cons 7 (vu) (.cons 8 (.int .i64 i) (.nil)))))) (fun i M P vp vu => [BkA kb q M, slA 45 34 Pair.enc vp (P.map (·.1)), slA 4 1 (fun b => [Value.bool b]) vu (P.map (·.2))]) (fun i M P vp vu => xs.length - i) (0) ([]) ([]) (.slice none 0 0) (.slice none 0 0) (⟨Nat.zero_le _, Agree.nil, Nat.zero_le _, Nat.zero_le _⟩) ?_ ?_
   ·exact fun _ j => J.envJ (J.keep (.cons (by repeat constructor) (.cons (by repeat constructor) (.cons (by repeat constructor) Takes.nil))) j) ⟨rfl, rfl, rfl, rfl, rfl, trivial⟩
   rintro i M P vp vu ⟨hile, hag, hMl, hPl⟩ kl11 hl11
   refine Run.seq fun k12 hk12 => ?_
   refine Run.seq fun k13 hk13 => ?_
   refine Run.region ?_
   show Sq _ _ _ [0, 1, 2, 3] _ _ _ _
   refine Sq.quiet (i := 0) rfl (Want.none rfl) rfl (ltN rfl) (QP.move rfl rfl).read ?_
   refine Sq.quiet (i := 1) rfl (Want.none rfl) rfl (ltN rfl) (QP.move rfl rfl).read ?_
   refine Sq.quiet (i := 2) rfl (Want.none rfl) rfl (ltN rfl) (QP.len rfl rfl rfl Try.underlying28).read ?_
   refine Sq.quiet (i := 3) rfl (Want.none rfl) rfl (ltN rfl) (QP.lss rfl rfl rfl).read ?_
   refine J.caseD (fun c36 => ?_) (fun c36 => ?_)
   ·skip
    refine Sq.nil ?_
    refine hk13 _ _ ?_
    refine Run.cond_t rfl ?_
    refine Run.skip ?_
    refine hk12 _ _ ?_
    refine Run.seq fun k14 hk14 => ?_
    refine Run.block ?_
    refine Run.seq fun k15 hk15 => ?_
    refine Run.region ?_
    show Sq _ _ _ [0, 1, 2, 3, 4, 5, 6, 7] _ _ _ _
    have hlt : i < xs.length := by omega
    obtain ⟨x, hi⟩ : ∃ x, xs[i]? = some x := ⟨_, List.getElem?_eq_getElem hlt⟩
    obtain ⟨b0, o0, rfl, hs0⟩ := ha.get (by omega)
    obtain ⟨hn, hol, hoa, how⟩ := hO x (List.mem_of_getElem? hi)
    obtain ⟨hosl, _⟩ := hop.2 x (List.mem_of_getElem? hi)
    generalize hos : O x = os at hn hol hoa how hosl
    have hlv : Slc.v x.l = .slice x.l.a os.length x.l.c := by rw [← hn]; rfl
    refine Sq.quiet (i := 0) rfl (Want.none rfl) rfl (ltN rfl) (QP.move rfl rfl).read ?_
    refine Sq.quiet (i := 1) rfl (Want.none rfl) rfl (ltN rfl) (QP.move rfl rfl).read ?_
    refine Sq.quiet (i := 2) rfl (Want.none rfl) rfl (ltN rfl) (QP.move rfl rfl).read ?_
    refine Sq.quiet (i := 3) rfl (Want.none rfl) rfl (ltN rfl) (QP.indexAddr rfl rfl rfl Try.underlying28 z41 (by first | omega | (simp <;> omega)) (by first | omega | (simp <;> omega))).read ?_
    refine Sq.quiet (i := 4) rfl (Want.none rfl) rfl (ltN rfl) (QP.fieldAddr rfl rfl f41_2).read ?_
    refine Sq.quiet (i := 5) rfl (Want.none rfl) rfl (ltN rfl) (QR.loadSlF1 rfl rfl g39 Law21Act.enc_len (hs0 _) hi (Law21Act.sub_l _)) ?_
    rw [hlv]
    refine Sq.eff (i := 6) rfl (Want.none rfl) rfl (ltN rfl) (EF.call rfl ce10 rfl (.cons (by repeat constructor) Takes.nil) (fun F' hle hr => tellB F' (os := os) (hoa.mono hle) (by omega))) ?_
    rintro v45 _ ⟨_, rfl, rfl⟩
    refine J.app ?_
    have hag2 : Agree (os.foldl (tstep q) (M, [])).1 ((os.foldl (tstep q) (M, [])).2.foldl updP P) := Agree.fold os (s := (M, [])) hag
    have hm2 := tfold_lenM q os (M, [])
    have ht2 := tfold_len q os (M, [])
    simp only [List.length_nil] at hm2 ht2
    generalize (os.foldl (tstep q) (M, [])).1 = M2 at hag2 hm2 ⊢
    generalize (os.foldl (tstep q) (M, [])).2 = T at hag2 ht2 ⊢
    refine J.slCase (v := v45) (xs := T) (by repeat constructor) (fun a45 c45 hv45 hh45 => ?_)
    subst hv45
    refine Sq.quiet (i := 7) rfl (Want.none rfl) rfl (ltN rfl) (QP.assign rfl rfl).read ?_
    refine Sq.nil ?_
    refine hk15 _ _ ?_
    refine Run.seq fun k16 hk16 => ?_
    refine Run.region ?_
    show Sq _ _ _ [0] _ _ _ _
    refine Sq.quiet (i := 0) rfl (Want.none rfl) rfl (ltN rfl) (QP.assign rfl rfl).read ?_
    refine Sq.nil ?_
    refine hk16 _ _ ?_
    refine Run.block ?_
    refine Run.loop4 (fun (j : Nat) (Q : TabB) (vp : Value) (vu : Value) => j ≤ T.length ∧ Q = (T.take j).foldl updP P) (fun j Q vp vu => .cons 1 (.slice (some ⟨b0, o0, none⟩) xs.length c) (.cons 5 (fp kb) (.cons 6 (vp) (.cons 7 (vu) (.cons 8 (.int .i64 i) (.cons 9 (.slice a45 T.length c45) (.cons 10 (.int .i64 j) (.nil)))))))) (fun j Q vp vu => [BkA kb q M2, slA 51 68 Tlv.enc (.slice a45 T.length c45) T, slA 45 34 Pair.enc vp (Q.map (·.1)), slA 4 1 (fun b => [Value.bool b]) vu (Q.map (·.2))]) (fun j Q vp vu => T.length - j) (0) (P) (vp) (vu) (⟨Nat.zero_le _, by simp⟩) ?_ ?_
    ·exact fun _ j => J.envJ (J.keep (.cons (by repeat constructor) (.cons (by repeat constructor) (.cons (by repeat constructor) (.cons (by repeat constructor) Takes.nil)))) j) ⟨rfl, rfl, rfl, rfl, rfl, rfl, rfl, trivial⟩
    rintro j Q vp vu ⟨hjle, hQ⟩ kl17 hl17
    refine Run.seq fun k18 hk18 => ?_
    refine Run.seq fun k19 hk19 => ?_
    refine Run.region ?_
    show Sq _ _ _ [0, 1, 2, 3] _ _ _ _
    refine Sq.quiet (i := 0) rfl (Want.none rfl) rfl (ltN rfl) (QP.move rfl rfl).read ?_
    refine Sq.quiet (i := 1) rfl (Want.none rfl) rfl (ltN rfl) (QP.move rfl rfl).read ?_
    refine Sq.quiet (i := 2) rfl (Want.none rfl) rfl (ltN rfl) (QP.len rfl rfl rfl Try.underlying37).read ?_
    refine Sq.quiet (i := 3) rfl (Want.none rfl) rfl (ltN rfl) (QP.lss rfl rfl rfl).read ?_
    refine J.caseD (fun c49 => ?_) (fun c49 => ?_)
    ·skip
     refine Sq.nil ?_
     refine hk19 _ _ ?_
     refine Run.cond_t rfl ?_
     refine Run.skip ?_
     refine hk18 _ _ ?_
     refine Run.seq fun k20 hk20 => ?_
     refine Run.block ?_
     refine Run.seq fun k21 hk21 => ?_
     refine Run.region ?_
     show Sq _ _ _ [0] _ _ _ _
     obtain ⟨t, hj⟩ : ∃ t, T[j]? = some t := ⟨_, List.getElem?_eq_getElem (by omega)⟩
     obtain ⟨bt, ot, rfl⟩ := hh45.get (by omega)
     have hQl := updP_len P (T.take j)
     rw [← hQ, List.length_take] at hQl
     refine J.slCase (v := vp) (xs := Q.map (·.1)) (by repeat constructor) (fun ap cp hvp hhp => ?_)
     subst hvp
     refine J.slCase (v := vu) (xs := Q.map (·.2)) (by repeat constructor) (fun au cu hvu hhu => ?_)
     subst hvu
     have hpl : (Q.map (·.1)).length = Q.length := List.length_map _
     have hul : (Q.map (·.2)).length = Q.length := List.length_map _
     refine Sq.quiet (i := 0) rfl (Want.none rfl) rfl (ltN rfl) (QP.assign rfl rfl).read ?_
     refine Sq.nil ?_
     refine hk21 _ _ ?_
     refine Run.seq fun k22 hk22 => ?_
     refine Run.block ?_
     refine Run.loop1 (fun (k : Nat) => k ≤ Q.length ∧ ∀ e ∈ Q.take k, e.1 ≠ t.pair) (fun k => .cons 1 (.slice (some ⟨b0, o0, none⟩) xs.length c) (.cons 5 (fp kb) (.cons 6 (.slice ap (Q.map (·.1)).length cp) (.cons 7 (.slice au (Q.map (·.2)).length cu) (.cons 8 (.int .i64 i) (.cons 9 (.slice (some ⟨bt, ot, none⟩) T.length c45) (.cons 10 (.int .i64 j) (.cons 11 (.int .i64 k) (.nil))))))))) (fun k => [BkA kb q M2, slA 51 68 Tlv.enc (.slice (some ⟨bt, ot, none⟩) T.length c45) T, slA 45 34 Pair.enc (.slice ap (Q.map (·.1)).length cp) (Q.map (·.1)), slA 4 1 (fun b => [Value.bool b]) (.slice au (Q.map (·.2)).length cu) (Q.map (·.2))]) (fun k => Q.length - k) (0) (⟨Nat.zero_le _, by simp⟩) ?_ ?_
     ·exact fun _ j => J.envJ (J.keep (.cons (by repeat constructor) (.cons (by repeat constructor) (.cons (by repeat constructor) (.cons (by repeat constructor) Takes.nil)))) j) ⟨rfl, rfl, rfl, rfl, rfl, rfl, rfl, rfl, trivial⟩
     rintro k ⟨hkle, hno⟩ kl23 hl23
     refine Run.seq fun k24 hk24 => ?_
     refine Run.seq fun k25 hk25 => ?_
     refine Run.regionD (M := [0, 0, 2, 7, 15, 31, 31, 127, 255, 31, 31, 1567, 3615, 7711, 16383, 32767]) (q := 65535) (r := 8448) (by kernel_rfl) ?_
     refine Dw.pure (i := 0) rfl (by kernel_rfl) (Want.none rfl) rfl (ltN rfl) (QP.move rfl rfl) ?_
     refine Dw.pure (i := 1) rfl (by kernel_rfl) (Want.none rfl) rfl (ltN rfl) (QP.move rfl rfl) ?_
     refine Dw.pure (i := 2) rfl (by kernel_rfl) (Want.none rfl) rfl (ltN rfl) (QP.len rfl rfl rfl Try.underlying35) ?_
     refine Dw.pure (i := 3) rfl (by kernel_rfl) (Want.none rfl) rfl (ltN rfl) (QP.lss rfl rfl rfl) ?_
     refine J.caseD (fun c55 => ?_) (fun c55 => ?_)
     ·skip
      refine Dw.pure (i := 4) rfl (by kernel_rfl) (Want.none rfl) rfl (ltN rfl) (QP.move rfl rfl) ?_
      obtain ⟨e, he⟩ : ∃ e, Q[k]? = some e := ⟨_, List.getElem?_eq_getElem (by omega)⟩
      obtain ⟨bp, op, rfl⟩ := hhp.get (by omega)
      have hek : (Q.map (·.1))[k]? = some e.1 := by rw [List.getElem?_map, he]; rfl
      refine Dw.pure (i := 5) rfl (by kernel_rfl) (Want.yes rfl rfl rfl rfl) rfl (ltN rfl) (QP.move rfl rfl) ?_
      refine Dw.pure (i := 6) rfl (by kernel_rfl) (Want.yes rfl rfl rfl rfl) rfl (ltN rfl) (QP.move rfl rfl) ?_
      refine Dw.pure (i := 7) rfl (by kernel_rfl) (Want.yes rfl rfl rfl rfl) rfl (ltN rfl) (QP.indexAddr rfl rfl rfl Try.underlying35 z45 (by first | omega | (simp <;> omega)) (by first | omega | (simp <;> omega))) ?_
      refine Dw.read (i := 8) rfl (by kernel_rfl) (Want.yes rfl rfl rfl rfl) rfl (ltN rfl) (QR.loadSl rfl rfl g45 Pair.enc_len (SlAt.own Pair.enc_len (by repeat constructor)) hek) ?_
      refine Dw.pure (i := 9) rfl (by kernel_rfl) (Want.yes rfl rfl rfl rfl) rfl (ltN rfl) (QP.move rfl rfl) ?_
      refine Dw.pure (i := 10) rfl (by kernel_rfl) (Want.yes rfl rfl rfl rfl) rfl (ltN rfl) (QP.move rfl rfl) ?_
      refine Dw.pure (i := 11) rfl (by kernel_rfl) (Want.yes rfl rfl rfl rfl) rfl (ltN rfl) (QP.indexAddr rfl rfl rfl Try.underlying37 z51 (by first | omega | (simp <;> omega)) (by first | omega | (simp <;> omega))) ?_
      refine Dw.pure (i := 12) rfl (by kernel_rfl) (Want.yes rfl rfl rfl rfl) rfl (ltN rfl) (QP.fieldAddr rfl rfl f51_11) ?_
      refine Dw.read (i := 13) rfl (by kernel_rfl) (Want.yes rfl rfl rfl rfl) rfl (ltN rfl) (QR.loadSlF rfl rfl g45 Tlv.enc_len (SlAt.own Tlv.enc_len (by repeat constructor)) hj (Tlv.sub_pair _)) ?_
      refine Dw.pure (i := 14) rfl (by kernel_rfl) (Want.yes rfl rfl rfl rfl) rfl (ltN rfl) (QP.neq_agg eq45 rfl rfl rfl) ?_
      refine J.caseD (fun c66 => ?_) (fun c66 => ?_)
      ·skip
       refine Dw.pure (i := 15) rfl (by kernel_rfl) (Want.none rfl) rfl (ltN rfl) (QP.pick_t rfl rfl rfl) ?_
       refine Dw.nil (by kernel_rfl) ?_
       refine hk25 _ _ ?_
       refine Run.cond_t rfl ?_
       refine Run.skip ?_
       refine hk24 _ _ ?_
       refine Run.block ?_
       refine Run.region ?_
       show Sq _ _ _ [0, 1, 2] _ _ _ _
       refine Sq.quiet (i := 0) rfl (Want.none rfl) rfl (ltN rfl) (QP.move rfl rfl).read ?_
       refine Sq.quiet (i := 1) rfl (Want.none rfl) rfl (ltN rfl) (QP.add64 rfl rfl rfl (by first | omega | (simp <;> omega)) (by first | omega | (simp <;> omega))).read ?_
       refine Sq.quiet (i := 2) rfl (Want.none rfl) rfl (ltN rfl) (QP.assign rfl rfl).read ?_
       refine Sq.nil ?_
       exact J.envJ (J.keep (.cons (by repeat constructor) (.cons (by repeat constructor) (.cons (by repeat constructor) (.cons (by repeat constructor) Takes.nil)))) (hl23 (k + 1) (⟨by omega, take_not hno he c66⟩) (by omega))) ⟨rfl, rfl, rfl, rfl, rfl, rfl, rfl, rfl, trivial⟩
      ·skip
       refine Dw.pure (i := 15) rfl (by kernel_rfl) (Want.none rfl) rfl (ltN rfl) (QP.pick_t rfl rfl rfl) ?_
       refine Dw.nil (by kernel_rfl) ?_
       refine hk25 _ _ ?_
       refine Run.cond_f rfl ?_
       refine Run.exit rfl ?_
       refine hk22 _ _ ?_
       refine Run.seq fun k26 hk26 => ?_
       refine Run.seq fun k27 hk27 => ?_
       refine Run.region ?_
       show Sq _ _ _ [0, 1, 2, 3] _ _ _ _
       have hkl : k < Q.length := (List.getElem?_eq_some_iff.1 he).1
       have hep : e.1 = t.pair := Classical.not_not.1 c66
       obtain ⟨bu, ou, rfl⟩ := hhu.get (by omega)
       refine Sq.quiet (i := 0) rfl (Want.none rfl) rfl (ltN rfl) (QP.move rfl rfl).read ?_
       refine Sq.quiet (i := 1) rfl (Want.none rfl) rfl (ltN rfl) (QP.move rfl rfl).read ?_
       refine Sq.quiet (i := 2) rfl (Want.none rfl) rfl (ltN rfl) (QP.len rfl rfl rfl Try.underlying35).read ?_
       refine Sq.quiet (i := 3) rfl (Want.none rfl) rfl (ltN rfl) (QP.eql rfl rfl rfl).read ?_
       refine J.decF (by omega) ?_
       refine Sq.nil ?_
       refine hk27 _ _ ?_
       refine Run.cond_f rfl ?_
       refine Run.skip ?_
       refine hk26 _ _ ?_
       refine Run.region ?_
       show Sq _ _ _ [0, 1, 2, 3, 4, 5, 6, 7, 8, 9] _ _ _ _
       refine Sq.quiet (i := 0) rfl (Want.none rfl) rfl (ltN rfl) (QP.move rfl rfl).read ?_
       refine Sq.quiet (i := 1) rfl (Want.none rfl) rfl (ltN rfl) (QP.move rfl rfl).read ?_
       refine Sq.quiet (i := 2) rfl (Want.none rfl) rfl (ltN rfl) (QP.move rfl rfl).read ?_
       refine Sq.quiet (i := 3) rfl (Want.none rfl) rfl (ltN rfl) (QP.move rfl rfl).read ?_
       refine Sq.quiet (i := 4) rfl (Want.none rfl) rfl (ltN rfl) (QP.indexAddr rfl rfl rfl Try.underlying37 z51 (by first | omega | (simp <;> omega)) (by first | omega | (simp <;> omega))).read ?_
       refine Sq.quiet (i := 5) rfl (Want.none rfl) rfl (ltN rfl) (QP.fieldAddr rfl rfl f51_5).read ?_
       refine Sq.quiet (i := 6) rfl (Want.none rfl) rfl (ltN rfl) (QR.loadSlF1 rfl rfl g46 Tlv.enc_len (SlAt.own Tlv.enc_len (by repeat constructor)) hj (Tlv.sub_metric _)) ?_
       refine Sq.quiet (i := 7) rfl (Want.none rfl) rfl (ltN rfl) (QP.neq rfl rfl rfl).read ?_
       refine Sq.quiet (i := 8) rfl (Want.none rfl) rfl (ltN rfl) (QP.indexAddr rfl rfl rfl Try.underlying36 z4 (by first | omega | (simp <;> omega)) (by first | omega | (simp <;> omega))).read ?_
       refine Sq.act (i := 9) rfl (Want.none rfl) rfl (EF.storeSlF (fo := 0) (enc := fun b => [Value.bool b]) (s := decide (t.metric ≠ 65535)) rfl rfl rfl z4 (by repeat constructor) (fun _ => rfl) (by first | omega | (simp; omega)) (fun _ _ => SetL.one) (cell_one rfl)) ?_
       rintro _ _ rfl
       refine Sq.nil ?_
       refine hk20 _ _ ?_
       refine Run.region ?_
       show Sq _ _ _ [0, 1, 2] _ _ _ _
       have hup : updP Q t = Q.set k (t.pair, (decide (t.metric ≠ 65535))) := by unfold updP; exact aset_at (c := e.2) (by rw [he, ← hep]) hno
       refine J.slEq (v := .slice (some ⟨bp, op, none⟩) (Q.map (·.1)).length cp) (by repeat constructor) (show Q.map (·.1) = (updP Q t).map (·.1) by rw [hup, List.map_set]; show _ = (Q.map (·.1)).set k t.pair; rw [← hep]; exact (set_same (by rw [List.getElem?_map, he]; rfl)).symm) ?_
       refine J.slEq (v := .slice (some ⟨bu, ou, none⟩) (Q.map (·.2)).length cu) (by repeat constructor) (show (Q.map (·.2)).set _ _ = (updP Q t).map (·.2) by rw [hup, List.map_set]; rfl) ?_
       refine Sq.quiet (i := 0) rfl (Want.none rfl) rfl (ltN rfl) (QP.move rfl rfl).read ?_
       refine Sq.quiet (i := 1) rfl (Want.none rfl) rfl (ltN rfl) (QP.add64 rfl rfl rfl (by first | omega | (simp <;> omega)) (by first | omega | (simp <;> omega))).read ?_
       refine Sq.quiet (i := 2) rfl (Want.none rfl) rfl (ltN rfl) (QP.assign rfl rfl).read ?_
       refine Sq.nil ?_
       exact J.envJ (J.keep (.cons (by repeat constructor) (.cons (by repeat constructor) (.cons (by repeat constructor) (.cons (by repeat constructor) Takes.nil)))) (hl17 (j + 1) (updP Q t) (.slice (some ⟨bp, op, none⟩) (Q.map (·.1)).length cp) (.slice (some ⟨bu, ou, none⟩) (Q.map (·.2)).length cu) (⟨by omega, by rw [hQ, take_succ_get hj, List.foldl_append]; rfl⟩) (by omega))) ⟨rfl, rfl, rfl, rfl, rfl, rfl, rfl, trivial⟩
     ·skip
      refine Dw.pure (i := 4) rfl (by kernel_rfl) (Want.none rfl) rfl (ltN rfl) (QP.move rfl rfl) ?_
      refine Dw.skip (i := 5) rfl (by kernel_rfl) (Want.no rfl rfl rfl rfl) rfl (ltN rfl) ?_
      refine Dw.skip (i := 6) rfl (by kernel_rfl) (Want.no rfl rfl rfl rfl) rfl (ltN rfl) ?_
      refine Dw.skip (i := 7) rfl (by kernel_rfl) (Want.no rfl rfl rfl rfl) rfl (ltN rfl) ?_
      refine Dw.skip (i := 8) rfl (by kernel_rfl) (Want.no rfl rfl rfl rfl) rfl (ltN rfl) ?_
      refine Dw.skip (i := 9) rfl (by kernel_rfl) (Want.no rfl rfl rfl rfl) rfl (ltN rfl) ?_
      refine Dw.skip (i := 10) rfl (by kernel_rfl) (Want.no rfl rfl rfl rfl) rfl (ltN rfl) ?_
      refine Dw.skip (i := 11) rfl (by kernel_rfl) (Want.no rfl rfl rfl rfl) rfl (ltN rfl) ?_
      refine Dw.skip (i := 12) rfl (by kernel_rfl) (Want.no rfl rfl rfl rfl) rfl (ltN rfl) ?_
      refine Dw.skip (i := 13) rfl (by kernel_rfl) (Want.no rfl rfl rfl rfl) rfl (ltN rfl) ?_
      refine Dw.skip (i := 14) rfl (by kernel_rfl) (Want.no rfl rfl rfl rfl) rfl (ltN rfl) ?_
      refine Dw.pure (i := 15) rfl (by kernel_rfl) (Want.none rfl) rfl (ltN rfl) (QP.pick_f rfl rfl rfl) ?_
      refine Dw.nil (by kernel_rfl) ?_
      refine hk25 _ _ ?_
      refine Run.cond_f rfl ?_
      refine Run.exit rfl ?_
      refine hk22 _ _ ?_
      refine Run.seq fun k28 hk28 => ?_
      refine Run.seq fun k29 hk29 => ?_
      refine Run.region ?_
      show Sq _ _ _ [0, 1, 2, 3] _ _ _ _
      refine Sq.quiet (i := 0) rfl (Want.none rfl) rfl (ltN rfl) (QP.move rfl rfl).read ?_
      refine Sq.quiet (i := 1) rfl (Want.none rfl) rfl (ltN rfl) (QP.move rfl rfl).read ?_
      refine Sq.quiet (i := 2) rfl (Want.none rfl) rfl (ltN rfl) (QP.len rfl rfl rfl Try.underlying35).read ?_
      refine Sq.quiet (i := 3) rfl (Want.none rfl) rfl (ltN rfl) (QP.eql rfl rfl rfl).read ?_
      refine J.decT (by omega) ?_
      refine Sq.nil ?_
      refine hk29 _ _ ?_
      refine Run.cond_t rfl ?_
      refine Run.seq fun k30 hk30 => ?_
      refine Run.region ?_
      show Sq _ _ _ [0, 1, 2, 3, 4, 5, 6, 7, 8] _ _ _ _
      refine Sq.quiet (i := 0) rfl (Want.none rfl) rfl (ltN rfl) (QP.move rfl rfl).read ?_
      refine Sq.quiet (i := 1) rfl (Want.none rfl) rfl (ltN rfl) (QP.move rfl rfl).read ?_
      refine Sq.quiet (i := 2) rfl (Want.none rfl) rfl (ltN rfl) (QP.move rfl rfl).read ?_
      refine Sq.quiet (i := 3) rfl (Want.none rfl) rfl (ltN rfl) (QP.indexAddr rfl rfl rfl Try.underlying37 z51 (by first | omega | (simp <;> omega)) (by first | omega | (simp <;> omega))).read ?_
      refine Sq.quiet (i := 4) rfl (Want.none rfl) rfl (ltN rfl) (QP.fieldAddr rfl rfl f51_11).read ?_
      refine Sq.quiet (i := 5) rfl (Want.none rfl) rfl (ltN rfl) (QR.loadSlF rfl rfl g45 Tlv.enc_len (SlAt.own Tlv.enc_len (by repeat constructor)) hj (Tlv.sub_pair _)) ?_
      refine Sq.eff (i := 6) rfl (Want.none rfl) rfl (ltN rfl) (EF.buildSlice1 rfl Try.underlying35 z45 zero45 (by simp [Value.cells, Pair.enc_len]) (by decide) rfl rfl (Pair.enc_len _) (by decide)) ?_
      rintro _ _ ⟨b80, rfl, rfl⟩
      refine Sq.eff (i := 7) rfl (Want.none rfl) rfl (ltN rfl) (EF.append1 (xs := (Q.map (·.1))) (s := (t).pair) el45 Pair.enc_len Pair.enc_cell rfl rfl rfl Try.underlying35 Try.underlying35 rfl rfl (by repeat constructor) (by repeat constructor) (by first | omega | (simp <;> omega))) ?_
      rintro sl81 _ rfl
      refine Sq.quiet (i := 8) rfl (Want.none rfl) rfl (ltN rfl) (QP.assign rfl rfl).read ?_
      refine Sq.nil ?_
      refine hk30 _ _ ?_
      refine Run.region ?_
      show Sq _ _ _ [0, 1, 2, 3] _ _ _ _
      refine Sq.quiet (i := 0) rfl (Want.none rfl) rfl (ltN rfl) (QP.move rfl rfl).read ?_
      refine Sq.eff (i := 1) rfl (Want.none rfl) rfl (ltN rfl) (EF.buildSliceS rfl Try.underlying36 z4 zero4 rfl (by decide) rfl rfl rfl rfl) ?_
      rintro _ _ ⟨b83, rfl, rfl⟩
      refine Sq.eff (i := 2) rfl (Want.none rfl) rfl (ltN rfl) (EF.append1 (xs := (Q.map (·.2))) (s := _) el4 (fun _ => rfl) (fun _ => cell_one rfl) rfl rfl rfl Try.underlying36 Try.underlying36 rfl rfl (by repeat constructor) (by repeat constructor) (by first | omega | (simp <;> omega))) ?_
      rintro sl84 _ rfl
      refine J.slCase (v := sl84) (xs := Q.map (·.2) ++ [false]) (by repeat constructor) (fun a84 c84 hv84 hh84 => ?_)
      subst hv84
      obtain ⟨b84, o84, rfl⟩ := hh84.get (by simp)
      refine Sq.quiet (i := 3) rfl (Want.none rfl) rfl (ltN rfl) (QP.assign rfl rfl).read ?_
      refine Sq.nil ?_
      refine hk28 _ _ ?_
      refine Run.region ?_
      show Sq _ _ _ [0, 1, 2, 3, 4, 5, 6, 7, 8, 9] _ _ _ _
      refine Sq.quiet (i := 0) rfl (Want.none rfl) rfl (ltN rfl) (QP.move rfl rfl).read ?_
      refine Sq.quiet (i := 1) rfl (Want.none rfl) rfl (ltN rfl) (QP.move rfl rfl).read ?_
      refine Sq.quiet (i := 2) rfl (Want.none rfl) rfl (ltN rfl) (QP.move rfl rfl).read ?_
      refine Sq.quiet (i := 3) rfl (Want.none rfl) rfl (ltN rfl) (QP.move rfl rfl).read ?_
      refine Sq.quiet (i := 4) rfl (Want.none rfl) rfl (ltN rfl) (QP.indexAddr rfl rfl rfl Try.underlying37 z51 (by first | omega | (simp <;> omega)) (by first | omega | (simp <;> omega))).read ?_
      refine Sq.quiet (i := 5) rfl (Want.none rfl) rfl (ltN rfl) (QP.fieldAddr rfl rfl f51_5).read ?_
      refine Sq.quiet (i := 6) rfl (Want.none rfl) rfl (ltN rfl) (QR.loadSlF1 rfl rfl g46 Tlv.enc_len (SlAt.own Tlv.enc_len (by repeat constructor)) hj (Tlv.sub_metric _)) ?_
      refine Sq.quiet (i := 7) rfl (Want.none rfl) rfl (ltN rfl) (QP.neq rfl rfl rfl).read ?_
      refine Sq.quiet (i := 8) rfl (Want.none rfl) rfl (ltN rfl) (QP.indexAddr rfl rfl rfl Try.underlying36 z4 (by first | omega | (simp <;> omega)) (by first | omega | (simp <;> omega))).read ?_
      refine Sq.act (i := 9) rfl (Want.none rfl) rfl (EF.storeSlF (fo := 0) (enc := fun b => [Value.bool b]) (s := decide (t.metric ≠ 65535)) rfl rfl rfl z4 (by repeat constructor) (fun _ => rfl) (by first | omega | (simp; omega)) (fun _ _ => SetL.one) (cell_one rfl)) ?_
      rintro _ _ rfl
      refine Sq.nil ?_
      refine hk20 _ _ ?_
      refine Run.region ?_
      show Sq _ _ _ [0, 1, 2] _ _ _ _
      have hup : updP Q t = Q ++ [(t.pair, (decide (t.metric ≠ 65535)))] := by unfold updP; exact aset_none (alook_none.2 (by rw [List.take_of_length_le (by omega)] at hno; exact hno))
      refine J.slEq (v := sl81) (by repeat constructor) (show Q.map (·.1) ++ [t.pair] = (updP Q t).map (·.1) by rw [hup]; simp) ?_
      refine J.slEq (v := .slice (some ⟨b84, o84, none⟩) (Q.map (·.2) ++ [false]).length c84) (by repeat constructor) (show (Q.map (·.2) ++ [false]).set _ _ = (updP Q t).map (·.2) by rw [hup, show Int.toNat (k : Int) = (Q.map (·.2)).length by rw [hul]; omega, List.set_append_right _ _ (Nat.le_refl _)]; simp) ?_
      refine Sq.quiet (i := 0) rfl (Want.none rfl) rfl (ltN rfl) (QP.move rfl rfl).read ?_
      refine Sq.quiet (i := 1) rfl (Want.none rfl) rfl (ltN rfl) (QP.add64 rfl rfl rfl (by first | omega | (simp <;> omega)) (by first | omega | (simp <;> omega))).read ?_
      refine Sq.quiet (i := 2) rfl (Want.none rfl) rfl (ltN rfl) (QP.assign rfl rfl).read ?_
      refine Sq.nil ?_
      exact J.envJ (J.keep (.cons (by repeat constructor) (.cons (by repeat constructor) (.cons (by repeat constructor) (.cons (by repeat constructor) Takes.nil)))) (hl17 (j + 1) (updP Q t) (sl81) (.slice (some ⟨b84, o84, none⟩) (Q.map (·.2) ++ [false]).length c84) (⟨by omega, by rw [hQ, take_succ_get hj, List.foldl_append]; rfl⟩) (by omega))) ⟨rfl, rfl, rfl, rfl, rfl, rfl, rfl, trivial⟩
    ·skip
     refine Sq.nil ?_
     refine hk19 _ _ ?_
     refine Run.cond_f rfl ?_
     refine Run.exit rfl ?_
     refine hk14 _ _ ?_
     refine Run.region ?_
     show Sq _ _ _ [0, 1, 2] _ _ _ _
     have hTT : T.take j = T := List.take_of_length_le (by omega)
     have hQl := updP_len P T
     rw [hTT] at hQ
     refine Sq.quiet (i := 0) rfl (Want.none rfl) rfl (ltN rfl) (QP.move rfl rfl).read ?_
     refine Sq.quiet (i := 1) rfl (Want.none rfl) rfl (ltN rfl) (QP.add64 rfl rfl rfl (by first | omega | (simp <;> omega)) (by first | omega | (simp <;> omega))).read ?_
     refine Sq.quiet (i := 2) rfl (Want.none rfl) rfl (ltN rfl) (QP.assign rfl rfl).read ?_
     refine Sq.nil ?_
     exact J.envJ (J.keep (.cons (by repeat constructor) (.cons (by repeat constructor) (.cons (by repeat constructor) Takes.nil))) (hl11 (i + 1) (M2) (Q) (vp) (vu) (⟨by omega, by rw [hQ]; exact hag2, by omega, by rw [hQ]; omega⟩) (by omega))) ⟨rfl, rfl, rfl, rfl, rfl, trivial⟩
   ·skip
    refine Sq.nil ?_
    refine hk13 _ _ ?_
    refine Run.cond_f rfl ?_
    refine Run.exit rfl ?_
    refine hk9 _ _ ?_
    refine Run.seq fun k31 hk31 => ?_
    refine Run.region ?_
    show Sq _ _ _ [0, 1, 2] _ _ _ _
    refine J.slCase (v := vp) (xs := P.map (·.1)) (by repeat constructor) (fun ap cp hvp hhp => ?_)
    subst hvp
    refine J.slCase (v := vu) (xs := P.map (·.2)) (by repeat constructor) (fun au cu hvu hhu => ?_)
    subst hvu
    have hpl : (P.map (·.1)).length = P.length := List.length_map _
    have hul : (P.map (·.2)).length = P.length := List.length_map _
    refine Sq.quiet (i := 0) rfl (Want.none rfl) rfl (ltN rfl) (QP.move rfl rfl).read ?_
    refine Sq.eff (i := 1) rfl (Want.none rfl) rfl (ltN rfl) (EF.call rfl ce11 rfl (.cons (by repeat constructor) Takes.nil) (fun F' hle hr => withdrawB F' (M := M) (by omega))) ?_
    rintro v95 _ ⟨_, ⟨ks, hks, rfl⟩, rfl⟩
    refine J.app ?_
    refine J.slCase (v := v95) (xs := ks.map fun p => backT q (offP p)) (by repeat constructor) (fun a95 c95 hv95 hh95 => ?_)
    subst hv95
    have hkl0 := hks.1.length_eq
    rw [List.length_map] at hkl0
    have hwl : (ks.map fun p => backT q (offP p)).length = ks.length := List.length_map _
    have hstr := hks.strict hag.mn
    have hcnt := hag.count
    refine Sq.quiet (i := 2) rfl (Want.none rfl) rfl (ltN rfl) (QP.assign rfl rfl).read ?_
    refine Sq.nil ?_
    refine hk31 _ _ ?_
    refine Run.seq fun k32 hk32 => ?_
    refine Run.region ?_
    show Sq _ _ _ [0] _ _ _ _
    refine Sq.quiet (i := 0) rfl (Want.none rfl) rfl (ltN rfl) (QP.assign rfl rfl).read ?_
    refine Sq.nil ?_
    refine hk32 _ _ ?_
    refine Run.seq fun k33 hk33 => ?_
    refine Run.seq fun k34 hk34 => ?_
    refine Run.region ?_
    show Sq _ _ _ [0] _ _ _ _
    refine Sq.quiet (i := 0) rfl (Want.none rfl) rfl (ltN rfl) (QP.assign rfl rfl).read ?_
    refine Sq.nil ?_
    refine hk34 _ _ ?_
    refine Run.block ?_
    refine Run.loop2 (fun (i2 : Nat) (n : Int) => i2 ≤ P.length ∧ n = (((P.take i2).countP (·.2) : Nat) : Int) ∧ n ≤ i2) (fun i2 n => .cons 6 (.slice ap (P.map (·.1)).length cp) (.cons 7 (.slice au (P.map (·.2)).length cu) (.cons 12 (.slice a95 (ks.map fun p => backT q (offP p)).length c95) (.cons 13 (.int .i64 n) (.cons 14 (.int .i64 i2) (.nil)))))) (fun i2 n => [slA 45 34 Pair.enc (.slice ap (P.map (·.1)).length cp) (P.map (·.1)), slA 4 1 (fun b => [Value.bool b]) (.slice au (P.map (·.2)).length cu) (P.map (·.2)), slA 51 68 Tlv.enc (.slice a95 (ks.map fun p => backT q (offP p)).length c95) (ks.map fun p => backT q (offP p))]) (fun i2 n => P.length - i2) (0) (0) (⟨Nat.zero_le _, by simp, by omega⟩) ?_ ?_
    ·exact fun _ j => J.envJ (J.keep (.cons (by repeat constructor) (.cons (by repeat constructor) (.cons (by repeat constructor) Takes.nil))) j) ⟨rfl, rfl, rfl, rfl, rfl, trivial⟩
    rintro i2 n ⟨hi2, hnn, hnle⟩ kl35 hl35
    refine Run.seq fun k36 hk36 => ?_
    refine Run.seq fun k37 hk37 => ?_
    refine Run.region ?_
    show Sq _ _ _ [0, 1, 2, 3] _ _ _ _
    refine Sq.quiet (i := 0) rfl (Want.none rfl) rfl (ltN rfl) (QP.move rfl rfl).read ?_
    refine Sq.quiet (i := 1) rfl (Want.none rfl) rfl (ltN rfl) (QP.move rfl rfl).read ?_
    refine Sq.quiet (i := 2) rfl (Want.none rfl) rfl (ltN rfl) (QP.len rfl rfl rfl Try.underlying35).read ?_
    refine Sq.quiet (i := 3) rfl (Want.none rfl) rfl (ltN rfl) (QP.lss rfl rfl rfl).read ?_
    refine J.caseD (fun c99 => ?_) (fun c99 => ?_)
    ·skip
     refine Sq.nil ?_
     refine hk37 _ _ ?_
     refine Run.cond_t rfl ?_
     refine Run.skip ?_
     refine hk36 _ _ ?_
     refine Run.seq fun k38 hk38 => ?_
     refine Run.block ?_
     refine Run.seq fun k39 hk39 => ?_
     refine Run.region ?_
     show Sq _ _ _ [0, 1, 2, 3] _ _ _ _
     obtain ⟨e, he⟩ : ∃ e, P[i2]? = some e := ⟨_, List.getElem?_eq_getElem (by omega)⟩
     obtain ⟨bu, ou, rfl⟩ := hhu.get (by omega)
     have hej : (P.map (·.2))[i2]? = some e.2 := by rw [List.getElem?_map, he]; rfl
     refine Sq.quiet (i := 0) rfl (Want.none rfl) rfl (ltN rfl) (QP.move rfl rfl).read ?_
     refine Sq.quiet (i := 1) rfl (Want.none rfl) rfl (ltN rfl) (QP.move rfl rfl).read ?_
     refine Sq.quiet (i := 2) rfl (Want.none rfl) rfl (ltN rfl) (QP.indexAddr rfl rfl rfl Try.underlying36 z4 (by first | omega | (simp <;> omega)) (by first | omega | (simp <;> omega))).read ?_
     refine Sq.quiet (i := 3) rfl (Want.none rfl) rfl (ltN rfl) (QR.loadSl1 (ev := Value.bool) rfl rfl g4 (SlAt.own (enc := fun b => [Value.bool b]) (fun _ => rfl) (by repeat constructor)) hej) ?_
     refine J.caseB (fun c105 => ?_) (fun c105 => ?_)
     ·skip
      refine Sq.nil ?_
      refine hk39 _ _ ?_
      refine Run.cond_t rfl ?_
      refine Run.region ?_
      show Sq _ _ _ [0, 1, 2] _ _ _ _
      refine Sq.quiet (i := 0) rfl (Want.none rfl) rfl (ltN rfl) (QP.move rfl rfl).read ?_
      refine Sq.quiet (i := 1) rfl (Want.none rfl) rfl (ltN rfl) (QP.add64 rfl rfl rfl (by first | omega | (simp <;> omega)) (by first | omega | (simp <;> omega))).read ?_
      refine Sq.quiet (i := 2) rfl (Want.none rfl) rfl (ltN rfl) (QP.assign rfl rfl).read ?_
      refine Sq.nil ?_
      refine hk38 _ _ ?_
      refine Run.region ?_
      show Sq _ _ _ [0, 1, 2] _ _ _ _
      refine Sq.quiet (i := 0) rfl (Want.none rfl) rfl (ltN rfl) (QP.move rfl rfl).read ?_
      refine Sq.quiet (i := 1) rfl (Want.none rfl) rfl (ltN rfl) (QP.add64 rfl rfl rfl (by first | omega | (simp <;> omega)) (by first | omega | (simp <;> omega))).read ?_
      refine Sq.quiet (i := 2) rfl (Want.none rfl) rfl (ltN rfl) (QP.assign rfl rfl).read ?_
      refine Sq.nil ?_
      exact J.envJ (J.keep (.cons (by repeat constructor) (.cons (by repeat constructor) (.cons (by repeat constructor) Takes.nil))) (hl35 (i2 + 1) (n + 1) (⟨by omega, by rw [take_succ_get he, List.countP_append, hnn]; simp [c105], by omega⟩) (by omega))) ⟨rfl, rfl, rfl, rfl, rfl, trivial⟩
     ·skip
      refine Sq.nil ?_
      refine hk39 _ _ ?_
      refine Run.cond_f rfl ?_
      refine Run.skip ?_
      refine hk38 _ _ ?_
      refine Run.region ?_
      show Sq _ _ _ [0, 1, 2] _ _ _ _
      refine Sq.quiet (i := 0) rfl (Want.none rfl) rfl (ltN rfl) (QP.move rfl rfl).read ?_
      refine Sq.quiet (i := 1) rfl (Want.none rfl) rfl (ltN rfl) (QP.add64 rfl rfl rfl (by first | omega | (simp <;> omega)) (by first | omega | (simp <;> omega))).read ?_
      refine Sq.quiet (i := 2) rfl (Want.none rfl) rfl (ltN rfl) (QP.assign rfl rfl).read ?_
      refine Sq.nil ?_
      exact J.envJ (J.keep (.cons (by repeat constructor) (.cons (by repeat constructor) (.cons (by repeat constructor) Takes.nil))) (hl35 (i2 + 1) (n) (⟨by omega, by rw [take_succ_get he, List.countP_append, hnn]; simp [c105], by omega⟩) (by omega))) ⟨rfl, rfl, rfl, rfl, rfl, trivial⟩
    ·skip
     refine Sq.nil ?_
     refine hk37 _ _ ?_
     refine Run.cond_f rfl ?_
     refine Run.exit rfl ?_
     refine hk33 _ _ ?_
     refine Run.seq fun k40 hk40 => ?_
     refine Run.seq fun k41 hk41 => ?_
     refine Run.region ?_
     show Sq _ _ _ [0] _ _ _ _
     rw [show P.take i2 = P from List.take_of_length_le (by omega)] at hnn
     rw [← hcnt] at hnn
     refine Sq.quiet (i := 0) rfl (Want.none rfl) rfl (ltN rfl) (QP.assign rfl rfl).read ?_
     refine Sq.nil ?_
     refine hk41 _ _ ?_
     refine Run.block ?_
     refine Run.loop1 (fun (i3 : Nat) => i3 ≤ ks.length) (fun i3 => .cons 6 (.slice ap (P.map (·.1)).length cp) (.cons 7 (.slice au (P.map (·.2)).length cu) (.cons 12 (.slice a95 (ks.map fun p => backT q (offP p)).length c95) (.cons 13 (.int .i64 n) (.cons 15 (.int .i64 i3) (.nil)))))) (fun i3 => [slA 45 34 Pair.enc (.slice ap (P.map (·.1)).length cp) (P.map (·.1)), slA 4 1 (fun b => [Value.bool b]) (.slice au (P.map (·.2)).length cu) (P.map (·.2)), slA 51 68 Tlv.enc (.slice a95 (ks.map fun p => backT q (offP p)).length c95) (ks.map fun p => backT q (offP p))]) (fun i3 => ks.length - i3) (0) (Nat.zero_le _) ?_ ?_
     ·exact fun _ j => J.envJ (J.keep (.cons (by repeat constructor) (.cons (by repeat constructor) (.cons (by repeat constructor) Takes.nil))) j) ⟨rfl, rfl, rfl, rfl, rfl, trivial⟩
     rintro i3 hi3 kl42 hl42
     refine Run.seq fun k43 hk43 => ?_
     refine Run.seq fun k44 hk44 => ?_
     refine Run.region ?_
     show Sq _ _ _ [0, 1, 2, 3] _ _ _ _
     refine Sq.quiet (i := 0) rfl (Want.none rfl) rfl (ltN rfl) (QP.move rfl rfl).read ?_
     refine Sq.quiet (i := 1) rfl (Want.none rfl) rfl (ltN rfl) (QP.move rfl rfl).read ?_
     refine Sq.quiet (i := 2) rfl (Want.none rfl) rfl (ltN rfl) (QP.len rfl rfl rfl Try.underlying37).read ?_
     refine Sq.quiet (i := 3) rfl (Want.none rfl) rfl (ltN rfl) (QP.lss rfl rfl rfl).read ?_
     refine J.caseD (fun c111 => ?_) (fun c111 => ?_)
     ·skip
      refine Sq.nil ?_
      refine hk44 _ _ ?_
      refine Run.cond_t rfl ?_
      refine Run.skip ?_
      refine hk43 _ _ ?_
      refine Run.seq fun k45 hk45 => ?_
      refine Run.block ?_
      refine Run.seq fun k46 hk46 => ?_
      refine Run.region ?_
      show Sq _ _ _ [0] _ _ _ _
      obtain ⟨p, hp⟩ : ∃ p, ks[i3]? = some p := ⟨_, List.getElem?_eq_getElem (by omega)⟩
      obtain ⟨bw, ow, rfl⟩ := hh95.get (by omega)
      have hwi : (ks.map fun p => backT q (offP p))[i3]? = some (backT q (offP p)) := by rw [List.getElem?_map, hp]; rfl
      have hpP := KeysOf.in hag hks (List.mem_of_getElem? hp)
      refine Sq.quiet (i := 0) rfl (Want.none rfl) rfl (ltN rfl) (QP.assign rfl rfl).read ?_
      refine Sq.nil ?_
      refine hk46 _ _ ?_
      refine Run.seq fun k47 hk47 => ?_
      refine Run.seq fun k48 hk48 => ?_
      refine Run.region ?_
      show Sq _ _ _ [0] _ _ _ _
      refine Sq.quiet (i := 0) rfl (Want.none rfl) rfl (ltN rfl) (QP.assign rfl rfl).read ?_
      refine Sq.nil ?_
      refine hk48 _ _ ?_
      refine Run.block ?_
      refine Run.loop2 (fun (j : Nat) (fb : Bool) => j ≤ P.length ∧ fb = (P.take j).any fun e => decide (e.1 = p) && e.2) (fun j fb => .cons 6 (.slice ap (P.map (·.1)).length cp) (.cons 7 (.slice au (P.map (·.2)).length cu) (.cons 12 (.slice (some ⟨bw, ow, none⟩) (ks.map fun p => backT q (offP p)).length c95) (.cons 13 (.int .i64 n) (.cons 15 (.int .i64 i3) (.cons 16 (.bool fb) (.cons 17 (.int .i64 j) (.nil)))))))) (fun j fb => [slA 45 34 Pair.enc (.slice ap (P.map (·.1)).length cp) (P.map (·.1)), slA 4 1 (fun b => [Value.bool b]) (.slice au (P.map (·.2)).length cu) (P.map (·.2)), slA 51 68 Tlv.enc (.slice (some ⟨bw, ow, none⟩) (ks.map fun p => backT q (offP p)).length c95) (ks.map fun p => backT q (offP p))]) (fun j fb => P.length - j) (0) (false) (⟨Nat.zero_le _, by simp⟩) ?_ ?_
      ·exact fun _ j => J.envJ (J.keep (.cons (by repeat constructor) (.cons (by repeat constructor) (.cons (by repeat constructor) Takes.nil))) j) ⟨rfl, rfl, rfl, rfl, rfl, rfl, rfl, trivial⟩
      rintro j fb ⟨hjle, hfb⟩ kl49 hl49
      refine Run.seq fun k50 hk50 => ?_
      refine Run.seq fun k51 hk51 => ?_
      refine Run.region ?_
      show Sq _ _ _ [0, 1, 2, 3] _ _ _ _
      refine Sq.quiet (i := 0) rfl (Want.none rfl) rfl (ltN rfl) (QP.move rfl rfl).read ?_
      refine Sq.quiet (i := 1) rfl (Want.none rfl) rfl (ltN rfl) (QP.move rfl rfl).read ?_
      refine Sq.quiet (i := 2) rfl (Want.none rfl) rfl (ltN rfl) (QP.len rfl rfl rfl Try.underlying35).read ?_
      refine Sq.quiet (i := 3) rfl (Want.none rfl) rfl (ltN rfl) (QP.lss rfl rfl rfl).read ?_
      refine J.caseD (fun c117 => ?_) (fun c117 => ?_)
      ·skip
       refine Sq.nil ?_
       refine hk51 _ _ ?_
       refine Run.cond_t rfl ?_
       refine Run.skip ?_
       refine hk50 _ _ ?_
       refine Run.seq fun k52 hk52 => ?_
       refine Run.block ?_
       refine Run.regionD (M := [0, 1, 3, 3, 15, 31, 3, 3, 195, 451, 963, 2047, 4095, 8191, 8191, 32767, 65535, 131071, 262143, 524287]) (q := 524287) (r := 66592) (by kernel_rfl) ?_
       obtain ⟨e, hj⟩ : ∃ e, P[j]? = some e := ⟨_, List.getElem?_eq_getElem (by omega)⟩
       obtain ⟨bp, op, rfl⟩ := hhp.get (by omega)
       obtain ⟨bu, ou, rfl⟩ := hhu.get (by omega)
       have hej : (P.map (·.2))[j]? = some e.2 := by rw [List.getElem?_map, hj]; rfl
       have hej1 : (P.map (·.1))[j]? = some e.1 := by rw [List.getElem?_map, hj]; rfl
       refine Dw.pure (i := 0) rfl (by kernel_rfl) (Want.none rfl) rfl (ltN rfl) (QP.move rfl rfl) ?_
       refine J.caseB (fun c120 => ?_) (fun c120 => ?_)
       ·skip
        refine Dw.pure (i := 1) rfl (by kernel_rfl) (Want.none rfl) rfl (ltN rfl) (QP.move rfl rfl) ?_
        refine Dw.skip (i := 2) rfl (by kernel_rfl) (Want.no rfl rfl rfl rfl) rfl (ltN rfl) ?_
        refine Dw.skip (i := 3) rfl (by kernel_rfl) (Want.no rfl rfl rfl rfl) rfl (ltN rfl) ?_
        refine Dw.skip (i := 4) rfl (by kernel_rfl) (Want.no rfl rfl rfl rfl) rfl (ltN rfl) ?_
        refine Dw.skip (i := 5) rfl (by kernel_rfl) (Want.no rfl rfl rfl rfl) rfl (ltN rfl) ?_
        refine Dw.skip (i := 6) rfl (by kernel_rfl) (Want.no rfl rfl rfl rfl) rfl (ltN rfl) ?_
        refine Dw.skip (i := 7) rfl (by kernel_rfl) (Want.no rfl rfl rfl rfl) rfl (ltN rfl) ?_
        refine Dw.skip (i := 8) rfl (by kernel_rfl) (Want.no rfl rfl rfl rfl) rfl (ltN rfl) ?_
        refine Dw.skip (i := 9) rfl (by kernel_rfl) (Want.no rfl rfl rfl rfl) rfl (ltN rfl) ?_
        refine Dw.skip (i := 10) rfl (by kernel_rfl) (Want.no rfl rfl rfl rfl) rfl (ltN rfl) ?_
        refine Dw.skip (i := 11) rfl (by kernel_rfl) (Want.no rfl rfl rfl rfl) rfl (ltN rfl) ?_
        refine Dw.skip (i := 12) rfl (by kernel_rfl) (Want.no rfl rfl rfl rfl) rfl (ltN rfl) ?_
        refine Dw.skip (i := 13) rfl (by kernel_rfl) (Want.undef rfl rfl rfl) rfl (ltN rfl) ?_
        refine Dw.skip (i := 14) rfl (by kernel_rfl) (Want.undef rfl rfl rfl) rfl (ltN rfl) ?_
        refine Dw.skip (i := 15) rfl (by kernel_rfl) (Want.undef rfl rfl rfl) rfl (ltN rfl) ?_
        refine Dw.skip (i := 16) rfl (by kernel_rfl) (Want.undef rfl rfl rfl) rfl (ltN rfl) ?_
        refine Dw.skip (i := 17) rfl (by kernel_rfl) (Want.no rfl rfl rfl rfl) rfl (ltN rfl) ?_
        refine Dw.pure (i := 18) rfl (by kernel_rfl) (Want.none rfl) rfl (ltN rfl) (QP.pick_t rfl rfl rfl) ?_
        refine Dw.eff (i := 19) (by kernel_rfl) (by kernel_rfl) ?_
        refine One.mk (o := _) (l := []) rfl (by kernel_rfl) (Want.none rfl) rfl (ltN rfl) ((QP.assign rfl rfl).eff) (by kernel_rfl) ?_
        rintro _ _ ⟨rfl, rfl⟩
        refine ⟨fun _ h => (by cases h), ?_⟩
        refine Dw.nil (by kernel_rfl) ?_
        refine hk52 _ _ ?_
        refine Run.region ?_
        show Sq _ _ _ [0, 1, 2] _ _ _ _
        refine Sq.quiet (i := 0) rfl (Want.none rfl) rfl (ltN rfl) (QP.move rfl rfl).read ?_
        refine Sq.quiet (i := 1) rfl (Want.none rfl) rfl (ltN rfl) (QP.add64 rfl rfl rfl (by first | omega | (simp <;> omega)) (by first | omega | (simp <;> omega))).read ?_
        refine Sq.quiet (i := 2) rfl (Want.none rfl) rfl (ltN rfl) (QP.assign rfl rfl).read ?_
        refine Sq.nil ?_
        exact J.envJ (J.keep (.cons (by repeat constructor) (.cons (by repeat constructor) (.cons (by repeat constructor) Takes.nil))) (hl49 (j + 1) (true) (⟨by omega, by rw [take_succ_get hj, List.any_append]; rw [← hfb, c120]; rfl⟩) (by omega))) ⟨rfl, rfl, rfl, rfl, rfl, rfl, rfl, trivial⟩
       ·skip
        refine Dw.pure (i := 1) rfl (by kernel_rfl) (Want.none rfl) rfl (ltN rfl) (QP.move rfl rfl) ?_
        refine Dw.pure (i := 2) rfl (by kernel_rfl) (Want.yes rfl rfl rfl rfl) rfl (ltN rfl) (QP.move rfl rfl) ?_
        refine Dw.pure (i := 3) rfl (by kernel_rfl) (Want.yes rfl rfl rfl rfl) rfl (ltN rfl) (QP.move rfl rfl) ?_
        refine Dw.pure (i := 4) rfl (by kernel_rfl) (Want.yes rfl rfl rfl rfl) rfl (ltN rfl) (QP.indexAddr rfl rfl rfl Try.underlying35 z45 (by first | omega | (simp <;> omega)) (by first | omega | (simp <;> omega))) ?_
        refine Dw.read (i := 5) rfl (by kernel_rfl) (Want.yes rfl rfl rfl rfl) rfl (ltN rfl) (QR.loadSl rfl rfl g45 Pair.enc_len (SlAt.own Pair.enc_len (by repeat constructor)) hej1) ?_
        refine Dw.pure (i := 6) rfl (by kernel_rfl) (Want.yes rfl rfl rfl rfl) rfl (ltN rfl) (QP.move rfl rfl) ?_
        refine Dw.pure (i := 7) rfl (by kernel_rfl) (Want.yes rfl rfl rfl rfl) rfl (ltN rfl) (QP.move rfl rfl) ?_
        refine Dw.pure (i := 8) rfl (by kernel_rfl) (Want.yes rfl rfl rfl rfl) rfl (ltN rfl) (QP.indexAddr rfl rfl rfl Try.underlying37 z51 (by first | omega | (simp <;> omega)) (by first | omega | (simp <;> omega))) ?_
        refine Dw.pure (i := 9) rfl (by kernel_rfl) (Want.yes rfl rfl rfl rfl) rfl (ltN rfl) (QP.fieldAddr rfl rfl f51_11) ?_
        refine Dw.read (i := 10) rfl (by kernel_rfl) (Want.yes rfl rfl rfl rfl) rfl (ltN rfl) (QR.loadSlF rfl rfl g45 Tlv.enc_len (SlAt.own Tlv.enc_len (by repeat constructor)) hwi (Tlv.sub_pair _)) ?_
        refine Dw.pure (i := 11) rfl (by kernel_rfl) (Want.yes rfl rfl rfl rfl) rfl (ltN rfl) (QP.eql_agg eq45 rfl rfl rfl) ?_
        refine J.caseD (fun c131 => ?_) (fun c131 => ?_)
        ·skip
         refine Dw.pure (i := 12) rfl (by kernel_rfl) (Want.yes rfl rfl rfl rfl) rfl (ltN rfl) (QP.move rfl rfl) ?_
         refine Dw.pure (i := 13) rfl (by kernel_rfl) (Want.yes rfl rfl rfl rfl) rfl (ltN rfl) (QP.move rfl rfl) ?_
         refine Dw.pure (i := 14) rfl (by kernel_rfl) (Want.yes rfl rfl rfl rfl) rfl (ltN rfl) (QP.move rfl rfl) ?_
         refine Dw.pure (i := 15) rfl (by kernel_rfl) (Want.yes rfl rfl rfl rfl) rfl (ltN rfl) (QP.indexAddr rfl rfl rfl Try.underlying36 z4 (by first | omega | (simp <;> omega)) (by first | omega | (simp <;> omega))) ?_
         refine Dw.read (i := 16) rfl (by kernel_rfl) (Want.yes rfl rfl rfl rfl) rfl (ltN rfl) (QR.loadSl1 (ev := Value.bool) rfl rfl g4 (SlAt.own (enc := fun b => [Value.bool b]) (fun _ => rfl) (by repeat constructor)) hej) ?_
         refine J.caseB (fun c136 => ?_) (fun c136 => ?_)
         ·skip
          refine Dw.pure (i := 17) rfl (by kernel_rfl) (Want.yes rfl rfl rfl rfl) rfl (ltN rfl) (QP.pick_t rfl rfl rfl) ?_
          refine Dw.pure (i := 18) rfl (by kernel_rfl) (Want.none rfl) rfl (ltN rfl) (QP.pick_f rfl rfl rfl) ?_
          refine Dw.eff (i := 19) (by kernel_rfl) (by kernel_rfl) ?_
          refine One.mk (o := _) (l := []) rfl (by kernel_rfl) (Want.none rfl) rfl (ltN rfl) ((QP.assign rfl rfl).eff) (by kernel_rfl) ?_
          rintro _ _ ⟨rfl, rfl⟩
          refine ⟨fun _ h => (by cases h), ?_⟩
          refine Dw.nil (by kernel_rfl) ?_
          refine hk52 _ _ ?_
          refine Run.region ?_
          show Sq _ _ _ [0, 1, 2] _ _ _ _
          refine Sq.quiet (i := 0) rfl (Want.none rfl) rfl (ltN rfl) (QP.move rfl rfl).read ?_
          refine Sq.quiet (i := 1) rfl (Want.none rfl) rfl (ltN rfl) (QP.add64 rfl rfl rfl (by first | omega | (simp <;> omega)) (by first | omega | (simp <;> omega))).read ?_
          refine Sq.quiet (i := 2) rfl (Want.none rfl) rfl (ltN rfl) (QP.assign rfl rfl).read ?_
          refine Sq.nil ?_
          exact J.envJ (J.keep (.cons (by repeat constructor) (.cons (by repeat constructor) (.cons (by repeat constructor) Takes.nil))) (hl49 (j + 1) (true) (⟨by omega, by rw [take_succ_get hj, List.any_append]; have h1 : e.1 = p := c131; rw [← hfb]; simp [h1, c136]⟩) (by omega))) ⟨rfl, rfl, rfl, rfl, rfl, rfl, rfl, trivial⟩
         ·skip
          refine Dw.pure (i := 17) rfl (by kernel_rfl) (Want.yes rfl rfl rfl rfl) rfl (ltN rfl) (QP.pick_t rfl rfl rfl) ?_
          refine Dw.pure (i := 18) rfl (by kernel_rfl) (Want.none rfl) rfl (ltN rfl) (QP.pick_f rfl rfl rfl) ?_
          refine Dw.eff (i := 19) (by kernel_rfl) (by kernel_rfl) ?_
          refine One.mk (o := _) (l := []) rfl (by kernel_rfl) (Want.none rfl) rfl (ltN rfl) ((QP.assign rfl rfl).eff) (by kernel_rfl) ?_
          rintro _ _ ⟨rfl, rfl⟩
          refine ⟨fun _ h => (by cases h), ?_⟩
          refine Dw.nil (by kernel_rfl) ?_
          refine hk52 _ _ ?_
          refine Run.region ?_
          show Sq _ _ _ [0, 1, 2] _ _ _ _
          refine Sq.quiet (i := 0) rfl (Want.none rfl) rfl (ltN rfl) (QP.move rfl rfl).read ?_
          refine Sq.quiet (i := 1) rfl (Want.none rfl) rfl (ltN rfl) (QP.add64 rfl rfl rfl (by first | omega | (simp <;> omega)) (by first | omega | (simp <;> omega))).read ?_
          refine Sq.quiet (i := 2) rfl (Want.none rfl) rfl (ltN rfl) (QP.assign rfl rfl).read ?_
          refine Sq.nil ?_
          exact J.envJ (J.keep (.cons (by repeat constructor) (.cons (by repeat constructor) (.cons (by repeat constructor) Takes.nil))) (hl49 (j + 1) (false) (⟨by omega, by rw [take_succ_get hj, List.any_append]; rw [← hfb]; simp [c136]; exact c120⟩) (by omega))) ⟨rfl, rfl, rfl, rfl, rfl, rfl, rfl, trivial⟩
        ·skip
         refine Dw.pure (i := 12) rfl (by kernel_rfl) (Want.yes rfl rfl rfl rfl) rfl (ltN rfl) (QP.move rfl rfl) ?_
         refine Dw.skip (i := 13) rfl (by kernel_rfl) (Want.no rfl rfl rfl rfl) rfl (ltN rfl) ?_
         refine Dw.skip (i := 14) rfl (by kernel_rfl) (Want.no rfl rfl rfl rfl) rfl (ltN rfl) ?_
         refine Dw.skip (i := 15) rfl (by kernel_rfl) (Want.no rfl rfl rfl rfl) rfl (ltN rfl) ?_
         refine Dw.skip (i := 16) rfl (by kernel_rfl) (Want.no rfl rfl rfl rfl) rfl (ltN rfl) ?_
         refine Dw.pure (i := 17) rfl (by kernel_rfl) (Want.yes rfl rfl rfl rfl) rfl (ltN rfl) (QP.pick_f rfl rfl rfl) ?_
         refine Dw.pure (i := 18) rfl (by kernel_rfl) (Want.none rfl) rfl (ltN rfl) (QP.pick_f rfl rfl rfl) ?_
         refine Dw.eff (i := 19) (by kernel_rfl) (by kernel_rfl) ?_
         refine One.mk (o := _) (l := []) rfl (by kernel_rfl) (Want.none rfl) rfl (ltN rfl) ((QP.assign rfl rfl).eff) (by kernel_rfl) ?_
         rintro _ _ ⟨rfl, rfl⟩
         refine ⟨fun _ h => (by cases h), ?_⟩
         refine Dw.nil (by kernel_rfl) ?_
         refine hk52 _ _ ?_
         refine Run.region ?_
         show Sq _ _ _ [0, 1, 2] _ _ _ _
         refine Sq.quiet (i := 0) rfl (Want.none rfl) rfl (ltN rfl) (QP.move rfl rfl).read ?_
         refine Sq.quiet (i := 1) rfl (Want.none rfl) rfl (ltN rfl) (QP.add64 rfl rfl rfl (by first | omega | (simp <;> omega)) (by first | omega | (simp <;> omega))).read ?_
         refine Sq.quiet (i := 2) rfl (Want.none rfl) rfl (ltN rfl) (QP.assign rfl rfl).read ?_
         refine Sq.nil ?_
         exact J.envJ (J.keep (.cons (by repeat constructor) (.cons (by repeat constructor) (.cons (by repeat constructor) Takes.nil))) (hl49 (j + 1) (false) (⟨by omega, by rw [take_succ_get hj, List.any_append]; have h1 : ¬ e.1 = p := c131; rw [← hfb]; simp [h1]; exact c120⟩) (by omega))) ⟨rfl, rfl, rfl, rfl, rfl, rfl, rfl, trivial⟩
      ·skip
       refine Sq.nil ?_
       refine hk51 _ _ ?_
       refine Run.cond_f rfl ?_
       refine Run.exit rfl ?_
       refine hk47 _ _ ?_
       refine Run.seq fun k53 hk53 => ?_
       refine Run.regionD (M := [0, 1, 3, 7, 7, 31, 63, 127, 255, 511, 1023, 2047, 4095, 8191, 16383, 16383, 49151, 131071, 262143, 524287, 16383, 16383, 3162111, 7356415, 15745023, 33554431, 67108863, 134217727, 268435455]) (q := 503316479) (r := 17301632) (by kernel_rfl) ?_
       have hfb1 : fb = true := by
         rw [hfb, show P.take j = P from List.take_of_length_le (by omega)]
         exact List.any_eq_true.2 ⟨(p, true), hpP, by simp⟩
       subst hfb1
       refine Dw.pure (i := 0) rfl (by kernel_rfl) (Want.none rfl) rfl (ltN rfl) (QP.move rfl rfl) ?_
       refine J.boolT (rfl) ?_
       refine Dw.pure (i := 1) rfl (by kernel_rfl) (Want.none rfl) rfl (ltN rfl) (QP.not rfl rfl) ?_
       refine Dw.pure (i := 2) rfl (by kernel_rfl) (Want.none rfl) rfl (ltN rfl) (QP.move rfl rfl) ?_
       refine Dw.pure (i := 3) rfl (by kernel_rfl) (Want.yes rfl rfl rfl rfl) rfl (ltN rfl) (QP.move rfl rfl) ?_
       refine Dw.pure (i := 4) rfl (by kernel_rfl) (Want.yes rfl rfl rfl rfl) rfl (ltN rfl) (QP.move rfl rfl) ?_
       refine Dw.pure (i := 5) rfl (by kernel_rfl) (Want.yes rfl rfl rfl rfl) rfl (ltN rfl) (QP.indexAddr rfl rfl rfl Try.underlying37 z51 (by first | omega | (simp <;> omega)) (by first | omega | (simp <;> omega))) ?_
       refine Dw.pure (i := 6) rfl (by kernel_rfl) (Want.yes rfl rfl rfl rfl) rfl (ltN rfl) (QP.fieldAddr rfl rfl f51_5) ?_
       refine Dw.read (i := 7) rfl (by kernel_rfl) (Want.yes rfl rfl rfl rfl) rfl (ltN rfl) (QR.loadSlF1 rfl rfl g46 Tlv.enc_len (SlAt.own Tlv.enc_len (by repeat constructor)) hwi (Tlv.sub_metric _)) ?_
       refine Dw.pure (i := 8) rfl (by kernel_rfl) (Want.yes rfl rfl rfl rfl) rfl (ltN rfl) (QP.neq rfl rfl rfl) ?_
       refine J.decF (by show ¬ (65535 : Int) ≠ 65535; decide) ?_
       refine Dw.pure (i := 9) rfl (by kernel_rfl) (Want.none rfl) rfl (ltN rfl) (QP.pick_f rfl rfl rfl) ?_
       refine Dw.pure (i := 10) rfl (by kernel_rfl) (Want.none rfl) rfl (ltN rfl) (QP.move rfl rfl) ?_
       refine Dw.pure (i := 11) rfl (by kernel_rfl) (Want.yes rfl rfl rfl rfl) rfl (ltN rfl) (QP.move rfl rfl) ?_
       refine Dw.pure (i := 12) rfl (by kernel_rfl) (Want.yes rfl rfl rfl rfl) rfl (ltN rfl) (QP.gtr rfl rfl rfl) ?_
       refine J.caseD (fun c151 => ?_) (fun c151 => ?_)
       ·skip
        refine Dw.pure (i := 13) rfl (by kernel_rfl) (Want.yes rfl rfl rfl rfl) rfl (ltN rfl) (QP.move rfl rfl) ?_
        obtain ⟨pr, hpr0⟩ : ∃ pr, ks[Int.toNat ((i3 : Int) - 1)]? = some pr := ⟨_, List.getElem?_eq_getElem (by omega)⟩
        have hpr : (ks.map fun p => backT q (offP p))[Int.toNat ((i3 : Int) - 1)]? = some (backT q (offP pr)) := by rw [List.getElem?_map, hpr0]; rfl
        have hcmp : cmpPair pr p < 0 := by
          obtain ⟨h1, rfl⟩ := List.getElem?_eq_some_iff.1 hpr0
          obtain ⟨h2, rfl⟩ := List.getElem?_eq_some_iff.1 hp
          exact List.pairwise_iff_getElem.1 hstr _ _ h1 h2 (by omega)
        refine Dw.pure (i := 14) rfl (by kernel_rfl) (Want.yes rfl rfl rfl rfl) rfl (ltN rfl) (QP.move rfl rfl) ?_
        refine Dw.pure (i := 15) rfl (by kernel_rfl) (Want.yes rfl rfl rfl rfl) rfl (ltN rfl) (QP.move rfl rfl) ?_
        refine Dw.pure (i := 16) rfl (by kernel_rfl) (Want.yes rfl rfl rfl rfl) rfl (ltN rfl) (QP.sub64 rfl rfl rfl (by first | omega | (simp <;> omega)) (by first | omega | (simp <;> omega))) ?_
        refine Dw.pure (i := 17) rfl (by kernel_rfl) (Want.yes rfl rfl rfl rfl) rfl (ltN rfl) (QP.indexAddr rfl rfl rfl Try.underlying37 z51 (by first | omega | (simp <;> omega)) (by first | omega | (simp <;> omega))) ?_
        refine Dw.pure (i := 18) rfl (by kernel_rfl) (Want.yes rfl rfl rfl rfl) rfl (ltN rfl) (QP.fieldAddr rfl rfl f51_11) ?_
        refine Dw.read (i := 19) rfl (by kernel_rfl) (Want.yes rfl rfl rfl rfl) rfl (ltN rfl) (QR.loadSlF rfl rfl g45 Tlv.enc_len (SlAt.own Tlv.enc_len (by repeat constructor)) hpr (Tlv.sub_pair _)) ?_
        refine Dw.pure (i := 20) rfl (by kernel_rfl) (Want.yes rfl rfl rfl rfl) rfl (ltN rfl) (QP.move rfl rfl) ?_
        refine Dw.pure (i := 21) rfl (by kernel_rfl) (Want.yes rfl rfl rfl rfl) rfl (ltN rfl) (QP.move rfl rfl) ?_
        refine Dw.pure (i := 22) rfl (by kernel_rfl) (Want.yes rfl rfl rfl rfl) rfl (ltN rfl) (QP.indexAddr rfl rfl rfl Try.underlying37 z51 (by first | omega | (simp <;> omega)) (by first | omega | (simp <;> omega))) ?_
        refine Dw.pure (i := 23) rfl (by kernel_rfl) (Want.yes rfl rfl rfl rfl) rfl (ltN rfl) (QP.fieldAddr rfl rfl f51_11) ?_
        refine Dw.read (i := 24) rfl (by kernel_rfl) (Want.yes rfl rfl rfl rfl) rfl (ltN rfl) (QR.loadSlF rfl rfl g45 Tlv.enc_len (SlAt.own Tlv.enc_len (by repeat constructor)) hwi (Tlv.sub_pair _)) ?_
        refine Dw.eff (i := 25) (by kernel_rfl) (by kernel_rfl) ?_
        refine One.mk (o := _) (l := []) rfl (by kernel_rfl) (Want.yes rfl rfl rfl rfl) rfl (ltN rfl) (EF.call rfl ce12 rfl Takes.nil (fun F' hle hr => cmpPair_spec F' pr p)) (by kernel_rfl) ?_
        rintro _ _ ⟨_, ⟨rfl, rfl⟩, rfl⟩
        refine ⟨fun _ h => (by cases h), ?_⟩
        refine J.app ?_
        refine Dw.pure (i := 26) rfl (by kernel_rfl) (Want.yes rfl rfl rfl rfl) rfl (ltN rfl) (QP.geq rfl rfl rfl) ?_
        refine J.decF (by omega) ?_
        refine Dw.pure (i := 27) rfl (by kernel_rfl) (Want.yes rfl rfl rfl rfl) rfl (ltN rfl) (QP.pick_t rfl rfl rfl) ?_
        refine Dw.pure (i := 28) rfl (by kernel_rfl) (Want.none rfl) rfl (ltN rfl) (QP.pick_f rfl rfl rfl) ?_
        refine Dw.nil (by kernel_rfl) ?_
        refine hk53 _ _ ?_
        refine Run.cond_f rfl ?_
        refine Run.skip ?_
        refine hk45 _ _ ?_
        refine Run.region ?_
        show Sq _ _ _ [0, 1, 2] _ _ _ _
        refine Sq.quiet (i := 0) rfl (Want.none rfl) rfl (ltN rfl) (QP.move rfl rfl).read ?_
        refine Sq.quiet (i := 1) rfl (Want.none rfl) rfl (ltN rfl) (QP.add64 rfl rfl rfl (by first | omega | (simp <;> omega)) (by first | omega | (simp <;> omega))).read ?_
        refine Sq.quiet (i := 2) rfl (Want.none rfl) rfl (ltN rfl) (QP.assign rfl rfl).read ?_
        refine Sq.nil ?_
        exact J.envJ (J.keep (.cons (by repeat constructor) (.cons (by repeat constructor) (.cons (by repeat constructor) Takes.nil))) (hl42 (i3 + 1) (by omega) (by omega))) ⟨rfl, rfl, rfl, rfl, rfl, trivial⟩
       ·skip
        refine Dw.pure (i := 13) rfl (by kernel_rfl) (Want.yes rfl rfl rfl rfl) rfl (ltN rfl) (QP.move rfl rfl) ?_
        refine Dw.skip (i := 14) rfl (by kernel_rfl) (Want.no rfl rfl rfl rfl) rfl (ltN rfl) ?_
        refine Dw.skip (i := 15) rfl (by kernel_rfl) (Want.no rfl rfl rfl rfl) rfl (ltN rfl) ?_
        refine Dw.skip (i := 16) rfl (by kernel_rfl) (Want.no rfl rfl rfl rfl) rfl (ltN rfl) ?_
        refine Dw.skip (i := 17) rfl (by kernel_rfl) (Want.no rfl rfl rfl rfl) rfl (ltN rfl) ?_
        refine Dw.skip (i := 18) rfl (by kernel_rfl) (Want.no rfl rfl rfl rfl) rfl (ltN rfl) ?_
        refine Dw.skip (i := 19) rfl (by kernel_rfl) (Want.no rfl rfl rfl rfl) rfl (ltN rfl) ?_
        refine Dw.skip (i := 20) rfl (by kernel_rfl) (Want.no rfl rfl rfl rfl) rfl (ltN rfl) ?_
        refine Dw.skip (i := 21) rfl (by kernel_rfl) (Want.no rfl rfl rfl rfl) rfl (ltN rfl) ?_
        refine Dw.skip (i := 22) rfl (by kernel_rfl) (Want.no rfl rfl rfl rfl) rfl (ltN rfl) ?_
        refine Dw.skip (i := 23) rfl (by kernel_rfl) (Want.no rfl rfl rfl rfl) rfl (ltN rfl) ?_
        refine Dw.skip (i := 24) rfl (by kernel_rfl) (Want.no rfl rfl rfl rfl) rfl (ltN rfl) ?_
        refine Dw.eff (i := 25) (by kernel_rfl) (by kernel_rfl) ?_
        refine One.skipD (o := _) rfl (by kernel_rfl) (Want.no rfl rfl rfl rfl) rfl (ltN rfl) ?_
        refine Dw.skip (i := 26) rfl (by kernel_rfl) (Want.no rfl rfl rfl rfl) rfl (ltN rfl) ?_
        refine Dw.pure (i := 27) rfl (by kernel_rfl) (Want.yes rfl rfl rfl rfl) rfl (ltN rfl) (QP.pick_f rfl rfl rfl) ?_
        refine Dw.pure (i := 28) rfl (by kernel_rfl) (Want.none rfl) rfl (ltN rfl) (QP.pick_f rfl rfl rfl) ?_
        refine Dw.nil (by kernel_rfl) ?_
        refine hk53 _ _ ?_
        refine Run.cond_f rfl ?_
        refine Run.skip ?_
        refine hk45 _ _ ?_
        refine Run.region ?_
        show Sq _ _ _ [0, 1, 2] _ _ _ _
        refine Sq.quiet (i := 0) rfl (Want.none rfl) rfl (ltN rfl) (QP.move rfl rfl).read ?_
        refine Sq.quiet (i := 1) rfl (Want.none rfl) rfl (ltN rfl) (QP.add64 rfl rfl rfl (by first | omega | (simp <;> omega)) (by first | omega | (simp <;> omega))).read ?_
        refine Sq.quiet (i := 2) rfl (Want.none rfl) rfl (ltN rfl) (QP.assign rfl rfl).read ?_
        refine Sq.nil ?_
        exact J.envJ (J.keep (.cons (by repeat constructor) (.cons (by repeat constructor) (.cons (by repeat constructor) Takes.nil))) (hl42 (i3 + 1) (by omega) (by omega))) ⟨rfl, rfl, rfl, rfl, rfl, trivial⟩
     ·skip
      refine Sq.nil ?_
      refine hk44 _ _ ?_
      refine Run.cond_f rfl ?_
      refine Run.exit rfl ?_
      refine hk40 _ _ ?_
      refine Run.seq fun k54 hk54 => ?_
      refine Run.region ?_
      show Sq _ _ _ [0, 1, 2, 3, 4, 5, 6, 7] _ _ _ _
      refine Sq.quiet (i := 0) rfl (Want.none rfl) rfl (ltN rfl) (QP.move rfl rfl).read ?_
      refine Sq.quiet (i := 1) rfl (Want.none rfl) rfl (ltN rfl) (QP.len rfl rfl rfl Try.underlying37).read ?_
      refine Sq.quiet (i := 2) rfl (Want.none rfl) rfl (ltN rfl) (QP.move rfl rfl).read ?_
      refine Sq.quiet (i := 3) rfl (Want.none rfl) rfl (ltN rfl) (QP.eql rfl rfl rfl).read ?_
      refine J.decT (by omega) ?_
      refine Sq.quiet (i := 4) rfl (Want.none rfl) rfl (ltN rfl) (QP.move rfl rfl).read ?_
      refine Sq.eff (i := 5) rfl (Want.yes rfl rfl rfl rfl) rfl (ltN rfl) (EF.call rfl ce8 rfl Takes.nil (fun F' hle hr => live_spec F')) ?_
      rintro _ _ ⟨_, ⟨rfl, rfl⟩, rfl⟩
      refine J.app ?_
      refine Sq.quiet (i := 6) rfl (Want.none rfl) rfl (ltN rfl) (QP.pick_t rfl rfl rfl).read ?_
      refine Sq.quiet (i := 7) rfl (Want.none rfl) rfl (ltN rfl) (QP.assign rfl rfl).read ?_
      refine Sq.nil ?_
      refine hk54 _ _ ?_
      refine Run.ret ?_
      exact J.ends (res_tmp rfl rfl) Takes.nil ⟨rfl, rfl⟩
  ·skip
   refine Sq.quiet (i := 7) rfl (Want.yes rfl rfl rfl rfl) rfl (ltN rfl) (QP.not rfl rfl).read ?_
   refine Sq.quiet (i := 8) rfl (Want.none rfl) rfl (ltN rfl) (QP.pick_f rfl rfl rfl).read ?_
   refine Sq.nil ?_
   refine hk3 _ _ ?_
   refine Run.cond_t rfl ?_
   refine Run.seq fun k55 hk55 => ?_
   refine Run.region ?_
   show Sq _ _ _ [0, 1] _ _ _ _
   refine Sq.eff (i := 0) rfl (Want.none rfl) rfl (ltN rfl) (EF.call rfl ce8 rfl Takes.nil (fun F' hle hr => live_spec F')) ?_
   rintro _ _ ⟨_, ⟨rfl, rfl⟩, rfl⟩
   refine J.app ?_
   refine Sq.quiet (i := 1) rfl (Want.none rfl) rfl (ltN rfl) (QP.assign rfl rfl).read ?_
   refine Sq.nil ?_
   refine hk55 _ _ ?_
   refine Run.ret ?_
   exact J.ends (res_tmp rfl rfl) Takes.nil ⟨rfl, rfl⟩
 ·skip
  refine Sq.quiet (i := 3) rfl (Want.none rfl) rfl (ltN rfl) (QP.not rfl rfl).read ?_
  refine Sq.quiet (i := 4) rfl (Want.none rfl) rfl (ltN rfl) (QP.move rfl rfl).read ?_
  refine Sq.skip (i := 5) rfl (Want.no rfl rfl rfl rfl) rfl (ltN rfl) ?_
  refine Sq.skip (i := 6) rfl (Want.no rfl rfl rfl rfl) rfl (ltN rfl) ?_
  refine Sq.skip (i := 7) rfl (Want.no rfl rfl rfl rfl) rfl (ltN rfl) ?_
  refine Sq.quiet (i := 8) rfl (Want.none rfl) rfl (ltN rfl) (QP.pick_t rfl rfl rfl).read ?_
  refine Sq.nil ?_
  refine hk3 _ _ ?_
  refine Run.cond_t rfl ?_
  refine Run.seq fun k56 hk56 => ?_
  refine Run.region ?_
  show Sq _ _ _ [0, 1] _ _ _ _
  refine Sq.eff (i := 0) rfl (Want.none rfl) rfl (ltN rfl) (EF.call rfl ce8 rfl Takes.nil (fun F' hle hr => live_spec F')) ?_
  rintro _ _ ⟨_, ⟨rfl, rfl⟩, rfl⟩
  refine J.app ?_
  refine Sq.quiet (i := 1) rfl (Want.none rfl) rfl (ltN rfl) (QP.assign rfl rfl).read ?_
  refine Sq.nil ?_
  refine hk56 _ _ ?_
  refine Run.ret ?_
  exact J.ends (res_tmp rfl rfl) Takes.nil ⟨rfl, rfl⟩
end Slb
