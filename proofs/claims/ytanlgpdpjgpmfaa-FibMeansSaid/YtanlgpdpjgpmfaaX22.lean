/- X22: a part of the proof that a law of this package holds for every input; no condition. -/
import Derived.Test.YtanlgpdpjgpmfaaX21
import Derived.Test.YtanlgpdpjgpmfaaB22
import Derived.Test.YtanlgpdpjgpmfaaB30
namespace Slb
open Go Go.Proofs
set_option maxRecDepth 20000
theorem law_means (F : Fr) {a : Option Addr} {c : Nat} {xs : List Entry} (hc : xs.length ≤ 9223372036854775807) (ha : ArgSl F a 51 Entry.enc xs) (s d : Bs 16) : Spec Try.prog 9 #[.slice a xs.length c, .agg (Bs.enc s).toArray, .agg (Bs.enc d).toArray] [] F (fun v S => v = .bool true ∧ S = []) := by
 refine Spec.intro (N := 197) (args := [.slice a xs.length c, .agg (Bs.enc s).toArray, .agg (Bs.enc d).toArray]) Try.func9 rfl rfl (by simp) ?_
 refine Run.seq fun k1 hk1 => ?_
 refine Run.region ?_
 show Sq _ _ _ [0, 1, 2] _ _ _ _
 refine Sq.eff (i := 0) rfl (Want.none rfl) rfl (ltN rfl) (EF.boxA rfl rfl) ?_
 rintro _ _ ⟨b4, rfl, rfl⟩
 refine Sq.eff (i := 1) rfl (Want.none rfl) rfl (ltN rfl) (EF.boxA rfl rfl) ?_
 rintro _ _ ⟨b5, rfl, rfl⟩
 refine Sq.quiet (i := 2) rfl (Want.none rfl) rfl (ltN rfl) (QP.assign rfl rfl).read ?_
 refine Sq.nil ?_
 refine hk1 _ _ ?_
 refine Run.seq fun k2 hk2 => ?_
 refine Run.seq fun k3 hk3 => ?_
 refine Run.regionD (M := [0, 1, 3, 7, 15, 31, 15, 127, 255, 511]) (q := 863) (r := 80) (by kernel_rfl) ?_
 refine Dw.pure (i := 0) rfl (by kernel_rfl) (Want.none rfl) rfl (ltN rfl) (QP.move rfl rfl) ?_
 refine Dw.pure (i := 1) rfl (by kernel_rfl) (Want.none rfl) rfl (ltN rfl) (QP.len rfl rfl rfl Try.underlying22) ?_
 refine Dw.pure (i := 2) rfl (by kernel_rfl) (Want.none rfl) rfl (ltN rfl) (QP.gtr rfl rfl rfl) ?_
 refine J.caseD (fun c21 => ?_) (fun c21 => ?_)
 ·skip
  refine Dw.pure (i := 3) rfl (by kernel_rfl) (Want.none rfl) rfl (ltN rfl) (QP.move rfl rfl) ?_
  refine Dw.skip (i := 4) rfl (by kernel_rfl) (Want.no rfl rfl rfl rfl) rfl (ltN rfl) ?_
  refine Dw.skip (i := 6) rfl (by kernel_rfl) (Want.no rfl rfl rfl rfl) rfl (ltN rfl) ?_
  refine Dw.eff (i := 5) (by kernel_rfl) (by kernel_rfl) ?_
  refine One.skipD (o := _) rfl (by kernel_rfl) (Want.no rfl rfl rfl rfl) rfl (ltN rfl) ?_
  refine Dw.eff (i := 7) (by kernel_rfl) (by kernel_rfl) ?_
  refine One.skipD (o := _) rfl (by kernel_rfl) (Want.no rfl rfl rfl rfl) rfl (ltN rfl) ?_
  refine Dw.skip (i := 8) rfl (by kernel_rfl) (Want.no rfl rfl rfl rfl) rfl (ltN rfl) ?_
  refine Dw.pure (i := 9) rfl (by kernel_rfl) (Want.none rfl) rfl (ltN rfl) (QP.pick_t rfl rfl rfl) ?_
  refine Dw.nil (by kernel_rfl) ?_
  refine hk3 _ _ ?_
  refine Run.cond_t rfl ?_
  refine Run.seq fun k4 hk4 => ?_
  refine Run.region ?_
  show Sq _ _ _ [0, 1] _ _ _ _
  refine Sq.eff (i := 0) rfl (Want.none rfl) rfl (ltN rfl) (EF.call rfl ce10 rfl Takes.nil (fun F' hle hr => live_spec F')) ?_
  rintro _ _ ⟨_, ⟨rfl, rfl⟩, rfl⟩
  refine J.app ?_
  refine Sq.quiet (i := 1) rfl (Want.none rfl) rfl (ltN rfl) (QP.assign rfl rfl).read ?_
  refine Sq.nil ?_
  refine hk4 _ _ ?_
  refine Run.ret ?_
  exact J.ends (res_tmp rfl rfl) Takes.nil ⟨rfl, rfl⟩
 ·skip
  refine Dw.pure (i := 3) rfl (by kernel_rfl) (Want.none rfl) rfl (ltN rfl) (QP.move rfl rfl) ?_
  refine Dw.read (i := 4) rfl (by kernel_rfl) (Want.yes rfl rfl rfl rfl) rfl (ltN rfl) (QR.load rfl rfl g35 (Bs.sub _)) ?_
  refine Dw.read (i := 6) rfl (by kernel_rfl) (Want.yes rfl rfl rfl rfl) rfl (ltN rfl) (QR.load rfl rfl g35 (Bs.sub _)) ?_
  refine Dw.eff (i := 5) (by kernel_rfl) (by kernel_rfl) ?_
  refine One.mk (o := _) (l := [6]) rfl (by kernel_rfl) (Want.yes rfl rfl rfl rfl) rfl (ltN rfl) (EF.call rfl ce35 rfl Takes.nil (fun F' hle hr => rfamily_spec F' (s))) (by kernel_rfl) ?_
  rintro _ _ ⟨_, ⟨rfl, rfl⟩, rfl⟩
  refine ⟨?_, ?_⟩
  ·rw [List.forall_mem_cons]
   refine ⟨?_, fun _ h => (by cases h)⟩
   ·refine Look.app ?_
    exact Look.mk rfl rfl rfl (QR.load rfl rfl g35 (Bs.sub _))
  refine ?_
  refine J.app ?_
  refine Dw.eff (i := 7) (by kernel_rfl) (by kernel_rfl) ?_
  refine One.mk (o := _) (l := []) rfl (by kernel_rfl) (Want.yes rfl rfl rfl rfl) rfl (ltN rfl) (EF.call rfl ce35 rfl Takes.nil (fun F' hle hr => rfamily_spec F' (d))) (by kernel_rfl) ?_
  rintro _ _ ⟨_, ⟨rfl, rfl⟩, rfl⟩
  refine ⟨fun _ h => (by cases h), ?_⟩
  refine J.app ?_
  refine Dw.pure (i := 8) rfl (by kernel_rfl) (Want.yes rfl rfl rfl rfl) rfl (ltN rfl) (QP.neq rfl rfl rfl) ?_
  refine J.caseD (fun c27 => ?_) (fun c27 => ?_)
  ·skip
   refine Dw.pure (i := 9) rfl (by kernel_rfl) (Want.none rfl) rfl (ltN rfl) (QP.pick_f rfl rfl rfl) ?_
   refine Dw.nil (by kernel_rfl) ?_
   refine hk3 _ _ ?_
   refine Run.cond_t rfl ?_
   refine Run.seq fun k5 hk5 => ?_
   refine Run.region ?_
   show Sq _ _ _ [0, 1] _ _ _ _
   refine Sq.eff (i := 0) rfl (Want.none rfl) rfl (ltN rfl) (EF.call rfl ce10 rfl Takes.nil (fun F' hle hr => live_spec F')) ?_
   rintro _ _ ⟨_, ⟨rfl, rfl⟩, rfl⟩
   refine J.app ?_
   refine Sq.quiet (i := 1) rfl (Want.none rfl) rfl (ltN rfl) (QP.assign rfl rfl).read ?_
   refine Sq.nil ?_
   refine hk5 _ _ ?_
   refine Run.ret ?_
   exact J.ends (res_tmp rfl rfl) Takes.nil ⟨rfl, rfl⟩
  ·skip
   refine Dw.pure (i := 9) rfl (by kernel_rfl) (Want.none rfl) rfl (ltN rfl) (QP.pick_f rfl rfl rfl) ?_
   refine Dw.nil (by kernel_rfl) ?_
   refine hk3 _ _ ?_
   refine Run.cond_f rfl ?_
   refine Run.skip ?_
   refine hk2 _ _ ?_
   refine Run.seq fun k6 hk6 => ?_
   refine Run.region ?_
   show Sq _ _ _ [0] _ _ _ _
   refine J.addSl 41 51 Entry.enc ?_
   refine J.addSl 39 34 Pair.enc ?_
   refine Sq.quiet (i := 0) rfl (Want.none rfl) rfl (ltN rfl) (QP.assign rfl rfl).read ?_
   refine Sq.nil ?_
   refine hk6 _ _ ?_
   refine Run.seq fun k7 hk7 => ?_
   refine Run.region ?_
   show Sq _ _ _ [0] _ _ _ _
   refine Sq.quiet (i := 0) rfl (Want.none rfl) rfl (ltN rfl) (QP.assign rfl rfl).read ?_
   refine Sq.nil ?_
   refine hk7 _ _ ?_
   refine Run.seq fun k8 hk8 => ?_
   refine Run.seq fun k9 hk9 => ?_
   refine Run.region ?_
   show Sq _ _ _ [0] _ _ _ _
   refine Sq.quiet (i := 0) rfl (Want.none rfl) rfl (ltN rfl) (QP.assign rfl rfl).read ?_
   refine Sq.nil ?_
   refine hk9 _ _ ?_
   refine Run.block ?_
   refine Run.loop3 (fun (i : Nat) (vp : Value) (vq : Value) => i ≤ xs.length) (fun i vp vq => .cons 0 (.slice a xs.length c) (.cons 4 (.pointer (some ⟨b4, 0, none⟩)) (.cons 5 (.pointer (some ⟨b5, 0, none⟩)) (.cons 7 (vq) (.cons 8 (vp) (.cons 9 (.int .i64 i) (.nil))))))) (fun i vp vq => [blk b4 (Bs.enc s) 35, blk b5 (Bs.enc d) 35, slA 41 51 Entry.enc vp ((xs.take i).foldl (keepM (familyB d)) []), slA 39 34 Pair.enc vq (((xs.take i).foldl (keepM (familyB d)) []).map Entry.pair)]) (fun i vp vq => xs.length - i) (0) (.slice none 0 0) (.slice none 0 0) (Nat.zero_le _) ?_ ?_
   ·exact fun _ j => J.envJ (J.keep (.cons (by repeat constructor) (.cons (by repeat constructor) (.cons (by repeat constructor) (.cons (by repeat constructor) Takes.nil)))) j) ⟨rfl, rfl, rfl, rfl, rfl, rfl, trivial⟩
   rintro i vp vq hile kl10 hl10
   refine Run.seq fun k11 hk11 => ?_
   refine Run.seq fun k12 hk12 => ?_
   refine Run.region ?_
   show Sq _ _ _ [0, 1, 2, 3] _ _ _ _
   have hpl := keepM_len (familyB d) (xs.take i) []
   have htl : (xs.take i).length ≤ 24 := by rw [List.length_take]; omega
   simp only [List.length_nil] at hpl
   have hpm : (((xs.take i).foldl (keepM (familyB d)) []).map Entry.pair).length = ((xs.take i).foldl (keepM (familyB d)) []).length := List.length_map _
   refine J.slCase (v := vp) (xs := ((xs.take i).foldl (keepM (familyB d)) [])) (by repeat constructor) (fun ap cp hvp hhp => ?_)
   subst hvp
   refine J.slCase (v := vq) (xs := (((xs.take i).foldl (keepM (familyB d)) []).map Entry.pair)) (by repeat constructor) (fun aq cq hvq hhq => ?_)
   subst hvq
   refine Sq.quiet (i := 0) rfl (Want.none rfl) rfl (ltN rfl) (QP.move rfl rfl).read ?_
   refine Sq.quiet (i := 1) rfl (Want.none rfl) rfl (ltN rfl) (QP.move rfl rfl).read ?_
   refine Sq.quiet (i := 2) rfl (Want.none rfl) rfl (ltN rfl) (QP.len rfl rfl rfl Try.underlying22).read ?_
   refine Sq.quiet (i := 3) rfl (Want.none rfl) rfl (ltN rfl) (QP.lss rfl rfl rfl).read ?_
   refine J.caseD (fun c33 => ?_) (fun c33 => ?_)
   ·skip
    refine Sq.nil ?_
    refine hk12 _ _ ?_
    refine Run.cond_t rfl ?_
    refine Run.skip ?_
    refine hk11 _ _ ?_
    refine Run.seq fun k13 hk13 => ?_
    refine Run.block ?_
    refine Run.seq fun k14 hk14 => ?_
    refine Run.regionD (M := [0, 0, 3, 7, 15, 31, 63, 127, 255, 511, 511, 2047, 4095, 8191, 16383, 32767, 511, 131071, 262143, 524287, 1048575, 2097151, 2097151, 2097151, 14680063, 31457279, 65011711, 134217727, 268435455, 536870911]) (q := 939360159) (r := 67190800) (by kernel_rfl) ?_
    have hlt : i < xs.length := by omega
    obtain ⟨e, hi⟩ : ∃ e, xs[i]? = some e := ⟨_, List.getElem?_eq_getElem hlt⟩
    obtain ⟨b0, o0, rfl, hs0⟩ := ha.get (by omega)
    have hsu : (xs.take (i + 1)).foldl (keepM (familyB d)) [] = keepM (familyB d) ((xs.take i).foldl (keepM (familyB d)) []) e := by rw [List.take_add_one, hi, Option.toList_some, List.foldl_append]; rfl
    refine Dw.pure (i := 0) rfl (by kernel_rfl) (Want.none rfl) rfl (ltN rfl) (QP.move rfl rfl) ?_
    refine Dw.pure (i := 1) rfl (by kernel_rfl) (Want.none rfl) rfl (ltN rfl) (QP.move rfl rfl) ?_
    refine Dw.pure (i := 2) rfl (by kernel_rfl) (Want.none rfl) rfl (ltN rfl) (QP.indexAddr rfl rfl rfl Try.underlying22 z41 (by first | omega | (simp <;> omega)) (by first | omega | (simp <;> omega))) ?_
    refine Dw.pure (i := 3) rfl (by kernel_rfl) (Want.none rfl) rfl (ltN rfl) (QP.fieldAddr rfl rfl f41_0) ?_
    refine Dw.read (i := 4) rfl (by kernel_rfl) (Want.none rfl) rfl (ltN rfl) (QR.loadSlF rfl rfl g39 Entry.enc_len (hs0 _) hi (Entry.sub_pair _)) ?_
    refine Dw.eff (i := 5) (by kernel_rfl) (by kernel_rfl) ?_
    refine One.mk (o := _) (l := []) rfl (by kernel_rfl) (Want.none rfl) rfl (ltN rfl) (EF.call rfl ce36 rfl Takes.nil (fun F' hle hr => checkPair_spec F' ((e).pair))) (by kernel_rfl) ?_
    rintro _ _ ⟨_, ⟨rfl, rfl⟩, rfl⟩
    refine ⟨fun _ h => (by cases h), ?_⟩
    refine J.app ?_
    refine Dw.eff (i := 6) (by kernel_rfl) (by kernel_rfl) ?_
    refine One.mk (o := _) (l := []) rfl (by kernel_rfl) (Want.none rfl) rfl (ltN rfl) (EF.call rfl ce20 rfl Takes.nil (fun F' hle hr => num_spec F' _)) (by kernel_rfl) ?_
    rintro _ _ ⟨_, ⟨rfl, rfl⟩, rfl⟩
    refine ⟨fun _ h => (by cases h), ?_⟩
    refine J.app ?_
    refine Dw.pure (i := 7) rfl (by kernel_rfl) (Want.none rfl) rfl (ltN rfl) (QP.eql rfl rfl rfl) ?_
    refine J.caseD (fun c43 => ?_) (fun c43 => ?_)
    ·skip
     refine Dw.pure (i := 8) rfl (by kernel_rfl) (Want.none rfl) rfl (ltN rfl) (QP.move rfl rfl) ?_
     refine Dw.pure (i := 9) rfl (by kernel_rfl) (Want.yes rfl rfl rfl rfl) rfl (ltN rfl) (QP.move rfl rfl) ?_
     refine Dw.pure (i := 10) rfl (by kernel_rfl) (Want.yes rfl rfl rfl rfl) rfl (ltN rfl) (QP.move rfl rfl) ?_
     refine Dw.pure (i := 11) rfl (by kernel_rfl) (Want.yes rfl rfl rfl rfl) rfl (ltN rfl) (QP.indexAddr rfl rfl rfl Try.underlying22 z41 (by first | omega | (simp <;> omega)) (by first | omega | (simp <;> omega))) ?_
     refine Dw.pure (i := 12) rfl (by kernel_rfl) (Want.yes rfl rfl rfl rfl) rfl (ltN rfl) (QP.fieldAddr rfl rfl f41_0) ?_
     refine Dw.pure (i := 13) rfl (by kernel_rfl) (Want.yes rfl rfl rfl rfl) rfl (ltN rfl) (QP.fieldAddr rfl rfl f39_0) ?_
     refine Dw.read (i := 14) rfl (by kernel_rfl) (Want.yes rfl rfl rfl rfl) rfl (ltN rfl) (QR.loadSlF rfl rfl g37 Entry.enc_len (hs0 _) hi ((Entry.sub_pair _).trans (Pair.sub_dst _))) ?_
     refine Dw.read (i := 16) rfl (by kernel_rfl) (Want.yes rfl rfl rfl rfl) rfl (ltN rfl) (QR.load rfl rfl g35 (Bs.sub _)) ?_
     refine Dw.eff (i := 15) (by kernel_rfl) (by kernel_rfl) ?_
     refine One.mk (o := _) (l := [16]) rfl (by kernel_rfl) (Want.yes rfl rfl rfl rfl) rfl (ltN rfl) (EF.call rfl ce33 rfl Takes.nil (fun F' hle hr => pfamily_spec F' (((e).pair).dst))) (by kernel_rfl) ?_
     rintro _ _ ⟨_, ⟨rfl, rfl⟩, rfl⟩
     refine ⟨?_, ?_⟩
     ·rw [List.forall_mem_cons]
      refine ⟨?_, fun _ h => (by cases h)⟩
      ·refine Look.app ?_
       exact Look.mk rfl rfl rfl (QR.load rfl rfl g35 (Bs.sub _))
     refine ?_
     refine J.app ?_
     refine Dw.eff (i := 17) (by kernel_rfl) (by kernel_rfl) ?_
     refine One.mk (o := _) (l := []) rfl (by kernel_rfl) (Want.yes rfl rfl rfl rfl) rfl (ltN rfl) (EF.call rfl ce35 rfl Takes.nil (fun F' hle hr => rfamily_spec F' (d))) (by kernel_rfl) ?_
     rintro _ _ ⟨_, ⟨rfl, rfl⟩, rfl⟩
     refine ⟨fun _ h => (by cases h), ?_⟩
     refine J.app ?_
     refine Dw.pure (i := 18) rfl (by kernel_rfl) (Want.yes rfl rfl rfl rfl) rfl (ltN rfl) (QP.eql rfl rfl rfl) ?_
     refine J.caseD (fun c54 => ?_) (fun c54 => ?_)
     ·skip
      refine Dw.pure (i := 19) rfl (by kernel_rfl) (Want.none rfl) rfl (ltN rfl) (QP.pick_t rfl rfl rfl) ?_
      refine Dw.pure (i := 20) rfl (by kernel_rfl) (Want.none rfl) rfl (ltN rfl) (QP.move rfl rfl) ?_
      refine Dw.pure (i := 21) rfl (by kernel_rfl) (Want.yes rfl rfl rfl rfl) rfl (ltN rfl) (QP.move rfl rfl) ?_
      refine Dw.pure (i := 22) rfl (by kernel_rfl) (Want.yes rfl rfl rfl rfl) rfl (ltN rfl) (QP.move rfl rfl) ?_
      refine Dw.pure (i := 23) rfl (by kernel_rfl) (Want.yes rfl rfl rfl rfl) rfl (ltN rfl) (QP.move rfl rfl) ?_
      refine Dw.pure (i := 24) rfl (by kernel_rfl) (Want.yes rfl rfl rfl rfl) rfl (ltN rfl) (QP.indexAddr rfl rfl rfl Try.underlying22 z41 (by first | omega | (simp <;> omega)) (by first | omega | (simp <;> omega))) ?_
      refine Dw.pure (i := 25) rfl (by kernel_rfl) (Want.yes rfl rfl rfl rfl) rfl (ltN rfl) (QP.fieldAddr rfl rfl f41_0) ?_
      refine Dw.read (i := 26) rfl (by kernel_rfl) (Want.yes rfl rfl rfl rfl) rfl (ltN rfl) (QR.loadSlF rfl rfl g39 Entry.enc_len (hs0 _) hi (Entry.sub_pair _)) ?_
      refine Dw.eff (i := 27) (by kernel_rfl) (by kernel_rfl) ?_
      refine One.mk (o := _) (l := []) rfl (by kernel_rfl) (Want.yes rfl rfl rfl rfl) rfl (ltN rfl) (EF.call rfl ce29 rfl (.cons (by repeat constructor) Takes.nil) (fun F' hle hr => find_spec F' (by omega) hhp _)) (by kernel_rfl) ?_
      rintro _ _ ⟨_, ⟨rfl, n63, rfl, hfind⟩, rfl⟩
      refine ⟨fun _ h => (by cases h), ?_⟩
      refine J.app ?_
      refine Dw.pure (i := 28) rfl (by kernel_rfl) (Want.yes rfl rfl rfl rfl) rfl (ltN rfl) (QP.lss rfl rfl rfl) ?_
      refine J.caseD (fun c64 => ?_) (fun c64 => ?_)
      ·skip
       refine Dw.pure (i := 29) rfl (by kernel_rfl) (Want.none rfl) rfl (ltN rfl) (QP.pick_t rfl rfl rfl) ?_
       refine Dw.nil (by kernel_rfl) ?_
       refine hk14 _ _ ?_
       refine Run.cond_t rfl ?_
       refine Run.seq fun k15 hk15 => ?_
       refine Run.region ?_
       show Sq _ _ _ [0, 1, 2, 3, 4, 5, 6, 7] _ _ _ _
       refine Sq.quiet (i := 0) rfl (Want.none rfl) rfl (ltN rfl) (QP.move rfl rfl).read ?_
       refine Sq.quiet (i := 1) rfl (Want.none rfl) rfl (ltN rfl) (QP.move rfl rfl).read ?_
       refine Sq.quiet (i := 2) rfl (Want.none rfl) rfl (ltN rfl) (QP.move rfl rfl).read ?_
       refine Sq.quiet (i := 3) rfl (Want.none rfl) rfl (ltN rfl) (QP.indexAddr rfl rfl rfl Try.underlying22 z41 (by first | omega | (simp <;> omega)) (by first | omega | (simp <;> omega))).read ?_
       refine Sq.quiet (i := 4) rfl (Want.none rfl) rfl (ltN rfl) (QR.loadSl rfl rfl g41 Entry.enc_len (hs0 _) hi) ?_
       refine Sq.eff (i := 5) rfl (Want.none rfl) rfl (ltN rfl) (EF.buildSlice1 rfl Try.underlying22 z41 zero41 (by simp [Value.cells, Entry.enc_len]) (by decide) rfl rfl (Entry.enc_len _) (by decide)) ?_
       rintro _ _ ⟨b71, rfl, rfl⟩
       refine Sq.eff (i := 6) rfl (Want.none rfl) rfl (ltN rfl) (EF.append1 (xs := ((xs.take i).foldl (keepM (familyB d)) [])) (s := e) el41 Entry.enc_len Entry.enc_cell rfl rfl rfl Try.underlying22 Try.underlying22 rfl rfl (by repeat constructor) (by repeat constructor) (by first | omega | (simp <;> omega))) ?_
       rintro sl72 _ rfl
       refine Sq.quiet (i := 7) rfl (Want.none rfl) rfl (ltN rfl) (QP.assign rfl rfl).read ?_
       refine Sq.nil ?_
       refine hk15 _ _ ?_
       refine Run.region ?_
       show Sq _ _ _ [0, 1, 2, 3, 4, 5, 6, 7, 8] _ _ _ _
       refine Sq.quiet (i := 0) rfl (Want.none rfl) rfl (ltN rfl) (QP.move rfl rfl).read ?_
       refine Sq.quiet (i := 1) rfl (Want.none rfl) rfl (ltN rfl) (QP.move rfl rfl).read ?_
       refine Sq.quiet (i := 2) rfl (Want.none rfl) rfl (ltN rfl) (QP.move rfl rfl).read ?_
       refine Sq.quiet (i := 3) rfl (Want.none rfl) rfl (ltN rfl) (QP.indexAddr rfl rfl rfl Try.underlying22 z41 (by first | omega | (simp <;> omega)) (by first | omega | (simp <;> omega))).read ?_
       refine Sq.quiet (i := 4) rfl (Want.none rfl) rfl (ltN rfl) (QP.fieldAddr rfl rfl f41_0).read ?_
       refine Sq.quiet (i := 5) rfl (Want.none rfl) rfl (ltN rfl) (QR.loadSlF rfl rfl g39 Entry.enc_len (hs0 _) hi (Entry.sub_pair _)) ?_
       refine Sq.eff (i := 6) rfl (Want.none rfl) rfl (ltN rfl) (EF.buildSlice1 rfl Try.underlying68 z39 zero39 (by simp [Value.cells, Pair.enc_len]) (by decide) rfl rfl (Pair.enc_len _) (by decide)) ?_
       rintro _ _ ⟨b79, rfl, rfl⟩
       refine Sq.eff (i := 7) rfl (Want.none rfl) rfl (ltN rfl) (EF.append1 (xs := (((xs.take i).foldl (keepM (familyB d)) []).map Entry.pair)) (s := (e).pair) el39 Pair.enc_len Pair.enc_cell rfl rfl rfl Try.underlying68 Try.underlying68 rfl rfl (by repeat constructor) (by repeat constructor) (by first | omega | (simp <;> omega))) ?_
       rintro sl80 _ rfl
       refine Sq.quiet (i := 8) rfl (Want.none rfl) rfl (ltN rfl) (QP.assign rfl rfl).read ?_
       refine Sq.nil ?_
       refine hk13 _ _ ?_
       refine Run.region ?_
       show Sq _ _ _ [0, 1, 2] _ _ _ _
       have hno : ∀ x ∈ ((xs.take i).foldl (keepM (familyB d)) []), x.pair ≠ e.pair := by
         rcases hfind with ⟨_, h⟩ | ⟨k, y, h, _, _⟩
         · exact h
         · omega
       have hpe : keepM (familyB d) ((xs.take i).foldl (keepM (familyB d)) []) e = ((xs.take i).foldl (keepM (familyB d)) []) ++ [e] := by unfold keepM; rw [if_pos ⟨⟨erno_zero.1 c43, c54⟩, hno⟩]
       have hpe2 : (keepM (familyB d) ((xs.take i).foldl (keepM (familyB d)) []) e).map Entry.pair = ((xs.take i).foldl (keepM (familyB d)) []).map Entry.pair ++ [e.pair] := by rw [hpe]; simp
       rw [← hsu] at hpe hpe2
       refine J.slEq (v := sl72) (by repeat constructor) hpe.symm ?_
       refine J.slEq (v := sl80) (by repeat constructor) hpe2.symm ?_
       refine Sq.quiet (i := 0) rfl (Want.none rfl) rfl (ltN rfl) (QP.move rfl rfl).read ?_
       refine Sq.quiet (i := 1) rfl (Want.none rfl) rfl (ltN rfl) (QP.add64 rfl rfl rfl (by first | omega | (simp <;> omega)) (by first | omega | (simp <;> omega))).read ?_
       refine Sq.quiet (i := 2) rfl (Want.none rfl) rfl (ltN rfl) (QP.assign rfl rfl).read ?_
       refine Sq.nil ?_
       exact J.envJ (J.keep (.cons (by repeat constructor) (.cons (by repeat constructor) (.cons (by repeat constructor) (.cons (by repeat constructor) Takes.nil)))) (hl10 (i + 1) (sl72) (sl80) (by omega) (by omega))) ⟨rfl, rfl, rfl, rfl, rfl, rfl, trivial⟩
      ·skip
       refine Dw.pure (i := 29) rfl (by kernel_rfl) (Want.none rfl) rfl (ltN rfl) (QP.pick_t rfl rfl rfl) ?_
       refine Dw.nil (by kernel_rfl) ?_
       refine hk14 _ _ ?_
       refine Run.cond_f rfl ?_
       refine Run.skip ?_
       refine hk13 _ _ ?_
       refine Run.region ?_
       show Sq _ _ _ [0, 1, 2] _ _ _ _
       have hpe : keepM (familyB d) ((xs.take i).foldl (keepM (familyB d)) []) e = ((xs.take i).foldl (keepM (familyB d)) []) := by
         unfold keepM
         rw [if_neg fun h => ?_]
         rcases hfind with ⟨h1, _⟩ | ⟨k, y, _, h2, h3⟩
         · omega
         · exact h.2 y (List.mem_of_getElem? h2) h3
       have hpe2 : (keepM (familyB d) ((xs.take i).foldl (keepM (familyB d)) []) e).map Entry.pair = ((xs.take i).foldl (keepM (familyB d)) []).map Entry.pair := by rw [hpe]
       rw [← hsu] at hpe hpe2
       refine J.slEq (v := .slice ap ((xs.take i).foldl (keepM (familyB d)) []).length cp) (by repeat constructor) hpe.symm ?_
       refine J.slEq (v := .slice aq (((xs.take i).foldl (keepM (familyB d)) []).map Entry.pair).length cq) (by repeat constructor) hpe2.symm ?_
       refine Sq.quiet (i := 0) rfl (Want.none rfl) rfl (ltN rfl) (QP.move rfl rfl).read ?_
       refine Sq.quiet (i := 1) rfl (Want.none rfl) rfl (ltN rfl) (QP.add64 rfl rfl rfl (by first | omega | (simp <;> omega)) (by first | omega | (simp <;> omega))).read ?_
       refine Sq.quiet (i := 2) rfl (Want.none rfl) rfl (ltN rfl) (QP.assign rfl rfl).read ?_
       refine Sq.nil ?_
       exact J.envJ (J.keep (.cons (by repeat constructor) (.cons (by repeat constructor) (.cons (by repeat constructor) (.cons (by repeat constructor) Takes.nil)))) (hl10 (i + 1) (.slice ap ((xs.take i).foldl (keepM (familyB d)) []).length cp) (.slice aq (((xs.take i).foldl (keepM (familyB d)) []).map Entry.pair).length cq) (by omega) (by omega))) ⟨rfl, rfl, rfl, rfl, rfl, rfl, trivial⟩
     ·skip
      refine Dw.pure (i := 19) rfl (by kernel_rfl) (Want.none rfl) rfl (ltN rfl) (QP.pick_t rfl rfl rfl) ?_
      refine Dw.pure (i := 20) rfl (by kernel_rfl) (Want.none rfl) rfl (ltN rfl) (QP.move rfl rfl) ?_
      refine Dw.skip (i := 21) rfl (by kernel_rfl) (Want.no rfl rfl rfl rfl) rfl (ltN rfl) ?_
      refine Dw.skip (i := 22) rfl (by kernel_rfl) (Want.no rfl rfl rfl rfl) rfl (ltN rfl) ?_
      refine Dw.skip (i := 23) rfl (by kernel_rfl) (Want.no rfl rfl rfl rfl) rfl (ltN rfl) ?_
      refine Dw.skip (i := 24) rfl (by kernel_rfl) (Want.no rfl rfl rfl rfl) rfl (ltN rfl) ?_
      refine Dw.skip (i := 25) rfl (by kernel_rfl) (Want.no rfl rfl rfl rfl) rfl (ltN rfl) ?_
      refine Dw.skip (i := 26) rfl (by kernel_rfl) (Want.no rfl rfl rfl rfl) rfl (ltN rfl) ?_
      refine Dw.eff (i := 27) (by kernel_rfl) (by kernel_rfl) ?_
      refine One.skipD (o := _) rfl (by kernel_rfl) (Want.no rfl rfl rfl rfl) rfl (ltN rfl) ?_
      refine Dw.skip (i := 28) rfl (by kernel_rfl) (Want.no rfl rfl rfl rfl) rfl (ltN rfl) ?_
      refine Dw.pure (i := 29) rfl (by kernel_rfl) (Want.none rfl) rfl (ltN rfl) (QP.pick_f rfl rfl rfl) ?_
      refine Dw.nil (by kernel_rfl) ?_
      refine hk14 _ _ ?_
      refine Run.cond_f rfl ?_
      refine Run.skip ?_
      refine hk13 _ _ ?_
      refine Run.region ?_
      show Sq _ _ _ [0, 1, 2] _ _ _ _
      have hpe : keepM (familyB d) ((xs.take i).foldl (keepM (familyB d)) []) e = ((xs.take i).foldl (keepM (familyB d)) []) := by
        unfold keepM
        rw [if_neg (fun h => c54 h.1.2)]
      have hpe2 : (keepM (familyB d) ((xs.take i).foldl (keepM (familyB d)) []) e).map Entry.pair = ((xs.take i).foldl (keepM (familyB d)) []).map Entry.pair := by rw [hpe]
      rw [← hsu] at hpe hpe2
      refine J.slEq (v := .slice ap ((xs.take i).foldl (keepM (familyB d)) []).length cp) (by repeat constructor) hpe.symm ?_
      refine J.slEq (v := .slice aq (((xs.take i).foldl (keepM (familyB d)) []).map Entry.pair).length cq) (by repeat constructor) hpe2.symm ?_
      refine Sq.quiet (i := 0) rfl (Want.none rfl) rfl (ltN rfl) (QP.move rfl rfl).read ?_
      refine Sq.quiet (i := 1) rfl (Want.none rfl) rfl (ltN rfl) (QP.add64 rfl rfl rfl (by first | omega | (simp <;> omega)) (by first | omega | (simp <;> omega))).read ?_
      refine Sq.quiet (i := 2) rfl (Want.none rfl) rfl (ltN rfl) (QP.assign rfl rfl).read ?_
      refine Sq.nil ?_
      exact J.envJ (J.keep (.cons (by repeat constructor) (.cons (by repeat constructor) (.cons (by repeat constructor) (.cons (by repeat constructor) Takes.nil)))) (hl10 (i + 1) (.slice ap ((xs.take i).foldl (keepM (familyB d)) []).length cp) (.slice aq (((xs.take i).foldl (keepM (familyB d)) []).map Entry.pair).length cq) (by omega) (by omega))) ⟨rfl, rfl, rfl, rfl, rfl, rfl, trivial⟩
    ·skip
     refine Dw.pure (i := 8) rfl (by kernel_rfl) (Want.none rfl) rfl (ltN rfl) (QP.move rfl rfl) ?_
     refine Dw.skip (i := 9) rfl (by kernel_rfl) (Want.no rfl rfl rfl rfl) rfl (ltN rfl) ?_
     refine Dw.skip (i := 10) rfl (by kernel_rfl) (Want.no rfl rfl rfl rfl) rfl (ltN rfl) ?_
     refine Dw.skip (i := 11) rfl (by kernel_rfl) (Want.no rfl rfl rfl rfl) rfl (ltN rfl) ?_
     refine Dw.skip (i := 12) rfl (by kernel_rfl) (Want.no rfl rfl rfl rfl) rfl (ltN rfl) ?_
     refine Dw.skip (i := 13) rfl (by kernel_rfl) (Want.no rfl rfl rfl rfl) rfl (ltN rfl) ?_
     refine Dw.skip (i := 14) rfl (by kernel_rfl) (Want.no rfl rfl rfl rfl) rfl (ltN rfl) ?_
     refine Dw.skip (i := 16) rfl (by kernel_rfl) (Want.no rfl rfl rfl rfl) rfl (ltN rfl) ?_
     refine Dw.eff (i := 15) (by kernel_rfl) (by kernel_rfl) ?_
     refine One.skipD (o := _) rfl (by kernel_rfl) (Want.no rfl rfl rfl rfl) rfl (ltN rfl) ?_
     refine Dw.eff (i := 17) (by kernel_rfl) (by kernel_rfl) ?_
     refine One.skipD (o := _) rfl (by kernel_rfl) (Want.no rfl rfl rfl rfl) rfl (ltN rfl) ?_
     refine Dw.skip (i := 18) rfl (by kernel_rfl) (Want.no rfl rfl rfl rfl) rfl (ltN rfl) ?_
     refine Dw.pure (i := 19) rfl (by kernel_rfl) (Want.none rfl) rfl (ltN rfl) (QP.pick_f rfl rfl rfl) ?_
     refine Dw.pure (i := 20) rfl (by kernel_rfl) (Want.none rfl) rfl (ltN rfl) (QP.move rfl rfl) ?_
     refine Dw.skip (i := 21) rfl (by kernel_rfl) (Want.no rfl rfl rfl rfl) rfl (ltN rfl) ?_
     refine Dw.skip (i := 22) rfl (by kernel_rfl) (Want.no rfl rfl rfl rfl) rfl (ltN rfl) ?_
     refine Dw.skip (i := 23) rfl (by kernel_rfl) (Want.no rfl rfl rfl rfl) rfl (ltN rfl) ?_
     refine Dw.skip (i := 24) rfl (by kernel_rfl) (Want.no rfl rfl rfl rfl) rfl (ltN rfl) ?_
     refine Dw.skip (i := 25) rfl (by kernel_rfl) (Want.no rfl rfl rfl rfl) rfl (ltN rfl) ?_
     refine Dw.skip (i := 26) rfl (by kernel_rfl) (Want.no rfl rfl rfl rfl) rfl (ltN rfl) ?_
     refine Dw.eff (i := 27) (by kernel_rfl) (by kernel_rfl) ?_
     refine One.skipD (o := _) rfl (by kernel_rfl) (Want.no rfl rfl rfl rfl) rfl (ltN rfl) ?_
     refine Dw.skip (i := 28) rfl (by kernel_rfl) (Want.no rfl rfl rfl rfl) rfl (ltN rfl) ?_
     refine Dw.pure (i := 29) rfl (by kernel_rfl) (Want.none rfl) rfl (ltN rfl) (QP.pick_f rfl rfl rfl) ?_
     refine Dw.nil (by kernel_rfl) ?_
     refine hk14 _ _ ?_
     refine Run.cond_f rfl ?_
     refine Run.skip ?_
     refine hk13 _ _ ?_
     refine Run.region ?_
     show Sq _ _ _ [0, 1, 2] _ _ _ _
     have hpe : keepM (familyB d) ((xs.take i).foldl (keepM (familyB d)) []) e = ((xs.take i).foldl (keepM (familyB d)) []) := by
       unfold keepM
       rw [if_neg (fun h => c43 (erno_zero.2 h.1.1))]
     have hpe2 : (keepM (familyB d) ((xs.take i).foldl (keepM (familyB d)) []) e).map Entry.pair = ((xs.take i).foldl (keepM (familyB d)) []).map Entry.pair := by rw [hpe]
     rw [← hsu] at hpe hpe2
     refine J.slEq (v := .slice ap ((xs.take i).foldl (keepM (familyB d)) []).length cp) (by repeat constructor) hpe.symm ?_
     refine J.slEq (v := .slice aq (((xs.take i).foldl (keepM (familyB d)) []).map Entry.pair).length cq) (by repeat constructor) hpe2.symm ?_
     refine Sq.quiet (i := 0) rfl (Want.none rfl) rfl (ltN rfl) (QP.move rfl rfl).read ?_
     refine Sq.quiet (i := 1) rfl (Want.none rfl) rfl (ltN rfl) (QP.add64 rfl rfl rfl (by first | omega | (simp <;> omega)) (by first | omega | (simp <;> omega))).read ?_
     refine Sq.quiet (i := 2) rfl (Want.none rfl) rfl (ltN rfl) (QP.assign rfl rfl).read ?_
     refine Sq.nil ?_
     exact J.envJ (J.keep (.cons (by repeat constructor) (.cons (by repeat constructor) (.cons (by repeat constructor) (.cons (by repeat constructor) Takes.nil)))) (hl10 (i + 1) (.slice ap ((xs.take i).foldl (keepM (familyB d)) []).length cp) (.slice aq (((xs.take i).foldl (keepM (familyB d)) []).map Entry.pair).length cq) (by omega) (by omega))) ⟨rfl, rfl, rfl, rfl, rfl, rfl, trivial⟩
   ·skip
    refine Sq.nil ?_
    refine hk12 _ _ ?_
    refine Run.cond_f rfl ?_
    refine Run.exit rfl ?_
    refine hk8 _ _ ?_
    refine Run.seq fun k16 hk16 => ?_
    refine Run.region ?_
    show Sq _ _ _ [0, 1, 2, 3, 4, 5, 6, 7, 8] _ _ _ _
    have hty : xs.take i = xs := List.take_of_length_le (by omega)
    rw [hty] at hhp hhq hpm hpl ⊢
    have hP : PlainM (familyB d) (xs.foldl (keepM (familyB d)) []) := PlainM.fold xs PlainM.nil
    rw [hty] at htl
    generalize hPP : xs.foldl (keepM (familyB d)) [] = P at hP hpl hhp hhq hpm ⊢
    refine Sq.quiet (i := 0) rfl (Want.none rfl) rfl (ltN rfl) (QR.load rfl rfl g35 (Bs.sub _)) ?_
    refine Sq.quiet (i := 1) rfl (Want.none rfl) rfl (ltN rfl) (QR.load rfl rfl g35 (Bs.sub _)) ?_
    refine Sq.quiet (i := 2) rfl (Want.none rfl) rfl (ltN rfl) (QP.move rfl rfl).read ?_
    refine Sq.eff (i := 3) rfl (Want.none rfl) rfl (ltN rfl) (EF.call rfl ce37 rfl (.cons (by repeat constructor) Takes.nil) (fun F' hle hr => abest_spec F' hhq (by rw [List.length_map]; omega) s d)) ?_
    rintro _ _ ⟨_, ⟨k, ok, rfl, htop, rfl⟩, rfl⟩
    refine J.app ?_
    refine Sq.quiet (i := 4) rfl (Want.none rfl) rfl (ltN rfl) (QP.move rfl rfl).read ?_
    refine Sq.quiet (i := 5) rfl (Want.none rfl) rfl (ltN rfl) (QP.extract rfl rfl rfl).read ?_
    refine Sq.quiet (i := 6) rfl (Want.none rfl) rfl (ltN rfl) (QP.extract rfl rfl rfl).read ?_
    refine Sq.quiet (i := 7) rfl (Want.none rfl) rfl (ltN rfl) (QP.assign rfl rfl).read ?_
    refine Sq.quiet (i := 8) rfl (Want.none rfl) rfl (ltN rfl) (QP.assign rfl rfl).read ?_
    refine Sq.nil ?_
    refine hk16 _ _ ?_
    refine Run.seq fun k17 hk17 => ?_
    refine Run.region ?_
    show Sq _ _ _ [0, 1, 2] _ _ _ _
    refine Sq.quiet (i := 0) rfl (Want.none rfl) rfl (ltN rfl) (QP.move rfl rfl).read ?_
    refine Sq.eff (i := 1) rfl (Want.none rfl) rfl (ltN rfl) (EF.call rfl ce12 rfl (.cons (by repeat constructor) Takes.nil) (fun F' hle hr => Spec.lendSl Entry.enc_len (fun F2 _ h2 => expand_spec F2 h2 (by omega)))) ?_
    rintro v89 _ ⟨_, ⟨_, ⟨L', hex, rfl⟩, rfl⟩, rfl⟩
    refine J.app ?_
    refine Sq.slCase (v := v89) (xs := L') (by repeat constructor) (fun a89 c89 hv89 hh89 => ?_)
    subst hv89
    have hLl := hex.len (by omega)
    refine Sq.quiet (i := 2) rfl (Want.none rfl) rfl (ltN rfl) (QP.assign rfl rfl).read ?_
    refine Sq.nil ?_
    refine hk17 _ _ ?_
    refine Run.seq fun k18 hk18 => ?_
    refine Run.region ?_
    show Sq _ _ _ [0, 1] _ _ _ _
    refine Sq.quiet (i := 0) rfl (Want.none rfl) rfl (ltN rfl) (QP.assign rfl rfl).read ?_
    refine Sq.quiet (i := 1) rfl (Want.none rfl) rfl (ltN rfl) (QP.assign rfl rfl).read ?_
    refine Sq.nil ?_
    refine hk18 _ _ ?_
    refine Run.seq fun k19 hk19 => ?_
    refine Run.seq fun k20 hk20 => ?_
    refine Run.region ?_
    show Sq _ _ _ [0] _ _ _ _
    refine Sq.quiet (i := 0) rfl (Want.none rfl) rfl (ltN rfl) (QP.assign rfl rfl).read ?_
    refine Sq.nil ?_
    refine hk20 _ _ ?_
    refine Run.block ?_
    refine Run.loop2 (fun (i : Nat) (n : Int) => i ≤ L'.length ∧ Dl d (L'.take i) n) (fun i n => .cons 4 (.pointer (some ⟨b4, 0, none⟩)) (.cons 5 (.pointer (some ⟨b5, 0, none⟩)) (.cons 8 (.slice ap P.length cp) (.cons 10 (.int .i64 k) (.cons 11 (.bool ok) (.cons 12 (.slice a89 L'.length c89) (.cons 13 (.int .i64 n) (.cons 14 (.int .i64 (-1)) (.cons 15 (.int .i64 i) (.nil)))))))))) (fun i n => [blk b4 (Bs.enc s) 35, blk b5 (Bs.enc d) 35, slA 41 51 Entry.enc (.slice ap P.length cp) P, slA 41 51 Entry.enc (.slice a89 L'.length c89) L']) (fun i n => L'.length - i) (0) (-1) (⟨Nat.zero_le _, by simpa using Dl.nil⟩) ?_ ?_
    ·exact fun _ j => J.envJ (J.keep (.cons (by repeat constructor) (.cons (by repeat constructor) (.cons (by repeat constructor) (.cons (by repeat constructor) Takes.nil)))) j) ⟨rfl, rfl, rfl, rfl, rfl, rfl, rfl, rfl, rfl, trivial⟩
    rintro i n ⟨hile2, hdl⟩ kl21 hl21
    refine Run.seq fun k22 hk22 => ?_
    refine Run.seq fun k23 hk23 => ?_
    refine Run.region ?_
    show Sq _ _ _ [0, 1, 2, 3] _ _ _ _
    refine Sq.quiet (i := 0) rfl (Want.none rfl) rfl (ltN rfl) (QP.move rfl rfl).read ?_
    refine Sq.quiet (i := 1) rfl (Want.none rfl) rfl (ltN rfl) (QP.move rfl rfl).read ?_
    refine Sq.quiet (i := 2) rfl (Want.none rfl) rfl (ltN rfl) (QP.len rfl rfl rfl Try.underlying22).read ?_
    refine Sq.quiet (i := 3) rfl (Want.none rfl) rfl (ltN rfl) (QP.lss rfl rfl rfl).read ?_
    refine J.caseD (fun c93 => ?_) (fun c93 => ?_)
    ·skip
     refine Sq.nil ?_
     refine hk23 _ _ ?_
     refine Run.cond_t rfl ?_
     refine Run.skip ?_
     refine hk22 _ _ ?_
     refine Run.seq fun k24 hk24 => ?_
     refine Run.block ?_
     refine Run.seq fun k25 hk25 => ?_
     refine Run.regionD (M := [0, 0, 3, 7, 15, 31, 0, 127, 255, 511, 511, 2047, 4095, 8191, 16383, 32767, 511, 131071, 262143]) (q := 524159) (r := 32864) (by kernel_rfl) ?_
     obtain ⟨x, hi⟩ : ∃ x, L'[i]? = some x := ⟨_, List.getElem?_eq_getElem (by omega)⟩
     obtain ⟨b0, o0, rfl⟩ := hh89.get (by omega)
     refine Dw.pure (i := 0) rfl (by kernel_rfl) (Want.none rfl) rfl (ltN rfl) (QP.move rfl rfl) ?_
     refine Dw.pure (i := 1) rfl (by kernel_rfl) (Want.none rfl) rfl (ltN rfl) (QP.move rfl rfl) ?_
     refine Dw.pure (i := 2) rfl (by kernel_rfl) (Want.none rfl) rfl (ltN rfl) (QP.indexAddr rfl rfl rfl Try.underlying22 z41 (by first | omega | (simp <;> omega)) (by first | omega | (simp <;> omega))) ?_
     refine Dw.pure (i := 3) rfl (by kernel_rfl) (Want.none rfl) rfl (ltN rfl) (QP.fieldAddr rfl rfl f41_0) ?_
     refine Dw.pure (i := 4) rfl (by kernel_rfl) (Want.none rfl) rfl (ltN rfl) (QP.fieldAddr rfl rfl f39_0) ?_
     refine Dw.read (i := 5) rfl (by kernel_rfl) (Want.none rfl) rfl (ltN rfl) (QR.loadSlF rfl rfl g37 Entry.enc_len (SlAt.own Entry.enc_len (by repeat constructor)) hi ((Entry.sub_pair _).trans (Pair.sub_dst _))) ?_
     refine Dw.read (i := 6) rfl (by kernel_rfl) (Want.none rfl) rfl (ltN rfl) (QR.load rfl rfl g35 (Bs.sub _)) ?_
     refine Dw.eff (i := 7) (by kernel_rfl) (by kernel_rfl) ?_
     refine One.mk (o := _) (l := []) rfl (by kernel_rfl) (Want.none rfl) rfl (ltN rfl) (EF.call rfl ce38 rfl Takes.nil (fun F' hle hr => contains_spec F' (((x).pair).dst) (d))) (by kernel_rfl) ?_
     rintro _ _ ⟨_, ⟨rfl, rfl⟩, rfl⟩
     refine ⟨fun _ h => (by cases h), ?_⟩
     refine J.app ?_
     refine J.caseB (fun c103 => ?_) (fun c103 => ?_)
     ·skip
      refine Dw.pure (i := 8) rfl (by kernel_rfl) (Want.none rfl) rfl (ltN rfl) (QP.move rfl rfl) ?_
      refine Dw.pure (i := 9) rfl (by kernel_rfl) (Want.yes rfl rfl rfl rfl) rfl (ltN rfl) (QP.move rfl rfl) ?_
      refine Dw.pure (i := 10) rfl (by kernel_rfl) (Want.yes rfl rfl rfl rfl) rfl (ltN rfl) (QP.move rfl rfl) ?_
      refine Dw.pure (i := 11) rfl (by kernel_rfl) (Want.yes rfl rfl rfl rfl) rfl (ltN rfl) (QP.indexAddr rfl rfl rfl Try.underlying22 z41 (by first | omega | (simp <;> omega)) (by first | omega | (simp <;> omega))) ?_
      refine Dw.pure (i := 12) rfl (by kernel_rfl) (Want.yes rfl rfl rfl rfl) rfl (ltN rfl) (QP.fieldAddr rfl rfl f41_0) ?_
      refine Dw.pure (i := 13) rfl (by kernel_rfl) (Want.yes rfl rfl rfl rfl) rfl (ltN rfl) (QP.fieldAddr rfl rfl f39_0) ?_
      refine Dw.pure (i := 14) rfl (by kernel_rfl) (Want.yes rfl rfl rfl rfl) rfl (ltN rfl) (QP.fieldAddr rfl rfl f37_1) ?_
      refine Dw.read (i := 15) rfl (by kernel_rfl) (Want.yes rfl rfl rfl rfl) rfl (ltN rfl) (QR.loadSlF1 rfl rfl g3 Entry.enc_len (SlAt.own Entry.enc_len (by repeat constructor)) hi (((Entry.sub_pair _).trans (Pair.sub_dst _)).trans (Prefix.sub_len _))) ?_
      refine Dw.pure (i := 16) rfl (by kernel_rfl) (Want.yes rfl rfl rfl rfl) rfl (ltN rfl) (QP.move rfl rfl) ?_
      refine Dw.pure (i := 17) rfl (by kernel_rfl) (Want.yes rfl rfl rfl rfl) rfl (ltN rfl) (QP.gtr rfl rfl rfl) ?_
      refine J.caseD (fun c113 => ?_) (fun c113 => ?_)
      ·skip
       refine Dw.pure (i := 18) rfl (by kernel_rfl) (Want.none rfl) rfl (ltN rfl) (QP.pick_t rfl rfl rfl) ?_
       refine Dw.nil (by kernel_rfl) ?_
       refine hk25 _ _ ?_
       refine Run.cond_t rfl ?_
       refine Run.region ?_
       show Sq _ _ _ [0, 1, 2, 3, 4, 5, 6, 7] _ _ _ _
       refine Sq.quiet (i := 0) rfl (Want.none rfl) rfl (ltN rfl) (QP.move rfl rfl).read ?_
       refine Sq.quiet (i := 1) rfl (Want.none rfl) rfl (ltN rfl) (QP.move rfl rfl).read ?_
       refine Sq.quiet (i := 2) rfl (Want.none rfl) rfl (ltN rfl) (QP.indexAddr rfl rfl rfl Try.underlying22 z41 (by first | omega | (simp <;> omega)) (by first | omega | (simp <;> omega))).read ?_
       refine Sq.quiet (i := 3) rfl (Want.none rfl) rfl (ltN rfl) (QP.fieldAddr rfl rfl f41_0).read ?_
       refine Sq.quiet (i := 4) rfl (Want.none rfl) rfl (ltN rfl) (QP.fieldAddr rfl rfl f39_0).read ?_
       refine Sq.quiet (i := 5) rfl (Want.none rfl) rfl (ltN rfl) (QP.fieldAddr rfl rfl f37_1).read ?_
       refine Sq.quiet (i := 6) rfl (Want.none rfl) rfl (ltN rfl) (QR.loadSlF1 rfl rfl g3 Entry.enc_len (SlAt.own Entry.enc_len (by repeat constructor)) hi (((Entry.sub_pair _).trans (Pair.sub_dst _)).trans (Prefix.sub_len _))) ?_
       refine Sq.quiet (i := 7) rfl (Want.none rfl) rfl (ltN rfl) (QP.assign rfl rfl).read ?_
       refine Sq.nil ?_
       refine hk24 _ _ ?_
       refine Run.region ?_
       show Sq _ _ _ [0, 1, 2] _ _ _ _
       refine Sq.quiet (i := 0) rfl (Want.none rfl) rfl (ltN rfl) (QP.move rfl rfl).read ?_
       refine Sq.quiet (i := 1) rfl (Want.none rfl) rfl (ltN rfl) (QP.add64 rfl rfl rfl (by first | omega | (simp <;> omega)) (by first | omega | (simp <;> omega))).read ?_
       refine Sq.quiet (i := 2) rfl (Want.none rfl) rfl (ltN rfl) (QP.assign rfl rfl).read ?_
       refine Sq.nil ?_
       exact J.envJ (J.keep (.cons (by repeat constructor) (.cons (by repeat constructor) (.cons (by repeat constructor) (.cons (by repeat constructor) Takes.nil)))) (hl21 (i + 1) (x.pair.dst.len.val) (⟨by omega, by rw [take_succ_get hi]; have := hdl.step x; unfold dlen at this; rw [c103, decide_eq_true c113] at this; exact this⟩) (by omega))) ⟨rfl, rfl, rfl, rfl, rfl, rfl, rfl, rfl, rfl, trivial⟩
      ·skip
       refine Dw.pure (i := 18) rfl (by kernel_rfl) (Want.none rfl) rfl (ltN rfl) (QP.pick_t rfl rfl rfl) ?_
       refine Dw.nil (by kernel_rfl) ?_
       refine hk25 _ _ ?_
       refine Run.cond_f rfl ?_
       refine Run.skip ?_
       refine hk24 _ _ ?_
       refine Run.region ?_
       show Sq _ _ _ [0, 1, 2] _ _ _ _
       refine Sq.quiet (i := 0) rfl (Want.none rfl) rfl (ltN rfl) (QP.move rfl rfl).read ?_
       refine Sq.quiet (i := 1) rfl (Want.none rfl) rfl (ltN rfl) (QP.add64 rfl rfl rfl (by first | omega | (simp <;> omega)) (by first | omega | (simp <;> omega))).read ?_
       refine Sq.quiet (i := 2) rfl (Want.none rfl) rfl (ltN rfl) (QP.assign rfl rfl).read ?_
       refine Sq.nil ?_
       exact J.envJ (J.keep (.cons (by repeat constructor) (.cons (by repeat constructor) (.cons (by repeat constructor) (.cons (by repeat constructor) Takes.nil)))) (hl21 (i + 1) (n) (⟨by omega, by rw [take_succ_get hi]; have := hdl.step x; unfold dlen at this; rw [c103, decide_eq_false c113] at this; exact this⟩) (by omega))) ⟨rfl, rfl, rfl, rfl, rfl, rfl, rfl, rfl, rfl, trivial⟩
     ·skip
      refine Dw.pure (i := 8) rfl (by kernel_rfl) (Want.none rfl) rfl (ltN rfl) (QP.move rfl rfl) ?_
      refine Dw.skip (i := 9) rfl (by kernel_rfl) (Want.no rfl rfl rfl rfl) rfl (ltN rfl) ?_
      refine Dw.skip (i := 10) rfl (by kernel_rfl) (Want.no rfl rfl rfl rfl) rfl (ltN rfl) ?_
      refine Dw.skip (i := 11) rfl (by kernel_rfl) (Want.no rfl rfl rfl rfl) rfl (ltN rfl) ?_
      refine Dw.skip (i := 12) rfl (by kernel_rfl) (Want.no rfl rfl rfl rfl) rfl (ltN rfl) ?_
      refine Dw.skip (i := 13) rfl (by kernel_rfl) (Want.no rfl rfl rfl rfl) rfl (ltN rfl) ?_
      refine Dw.skip (i := 14) rfl (by kernel_rfl) (Want.no rfl rfl rfl rfl) rfl (ltN rfl) ?_
      refine Dw.skip (i := 15) rfl (by kernel_rfl) (Want.no rfl rfl rfl rfl) rfl (ltN rfl) ?_
      refine Dw.skip (i := 16) rfl (by kernel_rfl) (Want.no rfl rfl rfl rfl) rfl (ltN rfl) ?_
      refine Dw.skip (i := 17) rfl (by kernel_rfl) (Want.no rfl rfl rfl rfl) rfl (ltN rfl) ?_
      refine Dw.pure (i := 18) rfl (by kernel_rfl) (Want.none rfl) rfl (ltN rfl) (QP.pick_f rfl rfl rfl) ?_
      refine Dw.nil (by kernel_rfl) ?_
      refine hk25 _ _ ?_
      refine Run.cond_f rfl ?_
      refine Run.skip ?_
      refine hk24 _ _ ?_
      refine Run.region ?_
      show Sq _ _ _ [0, 1, 2] _ _ _ _
      refine Sq.quiet (i := 0) rfl (Want.none rfl) rfl (ltN rfl) (QP.move rfl rfl).read ?_
      refine Sq.quiet (i := 1) rfl (Want.none rfl) rfl (ltN rfl) (QP.add64 rfl rfl rfl (by first | omega | (simp <;> omega)) (by first | omega | (simp <;> omega))).read ?_
      refine Sq.quiet (i := 2) rfl (Want.none rfl) rfl (ltN rfl) (QP.assign rfl rfl).read ?_
      refine Sq.nil ?_
      exact J.envJ (J.keep (.cons (by repeat constructor) (.cons (by repeat constructor) (.cons (by repeat constructor) (.cons (by repeat constructor) Takes.nil)))) (hl21 (i + 1) (n) (⟨by omega, by rw [take_succ_get hi]; have := hdl.step x; unfold dlen at this; rw [c103] at this; exact this⟩) (by omega))) ⟨rfl, rfl, rfl, rfl, rfl, rfl, rfl, rfl, rfl, trivial⟩
    ·skip
     refine Sq.nil ?_
     refine hk23 _ _ ?_
     refine Run.cond_f rfl ?_
     refine Run.exit rfl ?_
     refine hk19 _ _ ?_
     refine Run.seq fun k26 hk26 => ?_
     refine Run.region ?_
     show Sq _ _ _ [0, 1, 2] _ _ _ _
     have hdl2 := hdl
     rw [show L'.take i = L' from List.take_of_length_le (by omega)] at hdl2
     refine Sq.quiet (i := 0) rfl (Want.none rfl) rfl (ltN rfl) (QP.build (l := Entry.enc Entry.zero) rfl st41 rfl (by exact trivial) rfl).read ?_
     refine Sq.eff (i := 1) rfl (Want.none rfl) rfl (ltN rfl) (EF.allocA (l := Entry.enc Entry.zero) rfl zero41) ?_
     rintro _ _ ⟨b16, rfl, rfl⟩
     refine Sq.act (i := 2) rfl (Want.none rfl) rfl (EF.storeA rfl rfl rfl z41 (SetL.all (Entry.enc_len _) (Entry.enc_len _)) (Entry.enc_cell _)) ?_
     rintro _ _ rfl
     refine Sq.nil ?_
     refine hk26 _ _ ?_
     refine Run.seq fun k27 hk27 => ?_
     refine Run.seq fun k28 hk28 => ?_
     refine Run.region ?_
     show Sq _ _ _ [0] _ _ _ _
     refine Sq.quiet (i := 0) rfl (Want.none rfl) rfl (ltN rfl) (QP.assign rfl rfl).read ?_
     refine Sq.nil ?_
     refine hk28 _ _ ?_
     refine Run.block ?_
     refine Run.loop2 (fun (i : Nat) (r : Int × Entry) => i ≤ L'.length ∧ Fs s d n (L'.take i) r) (fun i r => .cons 4 (.pointer (some ⟨b4, 0, none⟩)) (.cons 5 (.pointer (some ⟨b5, 0, none⟩)) (.cons 8 (.slice ap P.length cp) (.cons 10 (.int .i64 k) (.cons 11 (.bool ok) (.cons 12 (.slice a89 L'.length c89) (.cons 13 (.int .i64 n) (.cons 14 (.int .i64 r.1) (.cons 16 (.pointer (some ⟨b16, 0, none⟩)) (.cons 17 (.int .i64 i) (.nil))))))))))) (fun i r => [blk b4 (Bs.enc s) 35, blk b5 (Bs.enc d) 35, slA 41 51 Entry.enc (.slice ap P.length cp) P, slA 41 51 Entry.enc (.slice a89 L'.length c89) L', blk b16 (Entry.enc r.2) 41]) (fun i r => L'.length - i) (0) ((-1, Entry.zero)) (⟨Nat.zero_le _, by simpa using Fs.nil⟩) ?_ ?_
     ·exact fun _ j => J.envJ (J.keep (.cons (by repeat constructor) (.cons (by repeat constructor) (.cons (by repeat constructor) (.cons (by repeat constructor) (.cons (by repeat constructor) Takes.nil))))) j) ⟨rfl, rfl, rfl, rfl, rfl, rfl, rfl, rfl, rfl, rfl, trivial⟩
     rintro i r ⟨hile3, hfs⟩ kl29 hl29
     refine Run.seq fun k30 hk30 => ?_
     refine Run.seq fun k31 hk31 => ?_
     refine Run.region ?_
     show Sq _ _ _ [0, 1, 2, 3] _ _ _ _
     refine Sq.quiet (i := 0) rfl (Want.none rfl) rfl (ltN rfl) (QP.move rfl rfl).read ?_
     refine Sq.quiet (i := 1) rfl (Want.none rfl) rfl (ltN rfl) (QP.move rfl rfl).read ?_
     refine Sq.quiet (i := 2) rfl (Want.none rfl) rfl (ltN rfl) (QP.len rfl rfl rfl Try.underlying22).read ?_
     refine Sq.quiet (i := 3) rfl (Want.none rfl) rfl (ltN rfl) (QP.lss rfl rfl rfl).read ?_
     refine J.caseD (fun c126 => ?_) (fun c126 => ?_)
     ·skip
      refine Sq.nil ?_
      refine hk31 _ _ ?_
      refine Run.cond_t rfl ?_
      refine Run.skip ?_
      refine hk30 _ _ ?_
      refine Run.seq fun k32 hk32 => ?_
      refine Run.block ?_
      refine Run.seq fun k33 hk33 => ?_
      refine Run.region ?_
      show Sq _ _ _ [0, 1, 2, 3, 4, 5, 6] _ _ _ _
      obtain ⟨x, hi⟩ : ∃ x, L'[i]? = some x := ⟨_, List.getElem?_eq_getElem (by omega)⟩
      obtain ⟨b0, o0, rfl⟩ := hh89.get (by omega)
      refine Sq.quiet (i := 0) rfl (Want.none rfl) rfl (ltN rfl) (QP.move rfl rfl).read ?_
      refine Sq.quiet (i := 1) rfl (Want.none rfl) rfl (ltN rfl) (QP.move rfl rfl).read ?_
      refine Sq.quiet (i := 2) rfl (Want.none rfl) rfl (ltN rfl) (QP.indexAddr rfl rfl rfl Try.underlying22 z41 (by first | omega | (simp <;> omega)) (by first | omega | (simp <;> omega))).read ?_
      refine Sq.quiet (i := 3) rfl (Want.none rfl) rfl (ltN rfl) (QP.fieldAddr rfl rfl f41_0).read ?_
      refine Sq.quiet (i := 4) rfl (Want.none rfl) rfl (ltN rfl) (QR.loadSlF rfl rfl g39 Entry.enc_len (SlAt.own Entry.enc_len (by repeat constructor)) hi (Entry.sub_pair _)) ?_
      refine Sq.eff (i := 5) rfl (Want.none rfl) rfl (ltN rfl) (EF.allocA (l := Pair.enc Pair.zero) rfl zero39) ?_
      rintro _ _ ⟨b18, rfl, rfl⟩
      refine Sq.act (i := 6) rfl (Want.none rfl) rfl (EF.storeA rfl rfl rfl z39 (SetL.all (Pair.enc_len _) (Pair.enc_len _)) (Pair.enc_cell _)) ?_
      rintro _ _ rfl
      refine Sq.nil ?_
      refine hk33 _ _ ?_
      refine Run.seq fun k34 hk34 => ?_
      refine Run.region ?_
      show Sq _ _ _ [0, 1, 2, 3, 4, 5, 6, 7, 8, 9, 10, 11, 12, 13, 14, 15, 16, 17, 18, 19, 20, 21, 22, 23] _ _ _ _
      refine Sq.quiet (i := 0) rfl (Want.none rfl) rfl (ltN rfl) (QP.fieldAddr rfl rfl f39_0).read ?_
      refine Sq.quiet (i := 1) rfl (Want.none rfl) rfl (ltN rfl) (QP.fieldAddr rfl rfl f37_1).read ?_
      refine Sq.quiet (i := 2) rfl (Want.none rfl) rfl (ltN rfl) (QR.load1 rfl rfl g3 ((Pair.sub_dst _).trans (Prefix.sub_len _))) ?_
      refine Sq.quiet (i := 3) rfl (Want.none rfl) rfl (ltN rfl) (QP.move rfl rfl).read ?_
      refine Sq.quiet (i := 4) rfl (Want.none rfl) rfl (ltN rfl) (QP.eql rfl rfl rfl).read ?_
      refine J.caseD (fun c138 => ?_) (fun c138 => ?_)
      ·skip
       refine Sq.quiet (i := 5) rfl (Want.none rfl) rfl (ltN rfl) (QP.move rfl rfl).read ?_
       refine Sq.quiet (i := 6) rfl (Want.yes rfl rfl rfl rfl) rfl (ltN rfl) (QP.fieldAddr rfl rfl f39_0).read ?_
       refine Sq.quiet (i := 7) rfl (Want.yes rfl rfl rfl rfl) rfl (ltN rfl) (QR.load rfl rfl g37 (Pair.sub_dst _)) ?_
       refine Sq.quiet (i := 8) rfl (Want.yes rfl rfl rfl rfl) rfl (ltN rfl) (QR.load rfl rfl g35 (Bs.sub _)) ?_
       refine Sq.eff (i := 9) rfl (Want.yes rfl rfl rfl rfl) rfl (ltN rfl) (EF.call rfl ce38 rfl Takes.nil (fun F' hle hr => contains_spec F' (((x).pair).dst) (d))) ?_
       rintro _ _ ⟨_, ⟨rfl, rfl⟩, rfl⟩
       refine J.app ?_
       refine J.caseB (fun c143 => ?_) (fun c143 => ?_)
       ·skip
        refine Sq.quiet (i := 10) rfl (Want.none rfl) rfl (ltN rfl) (QP.pick_t rfl rfl rfl).read ?_
        refine Sq.quiet (i := 11) rfl (Want.none rfl) rfl (ltN rfl) (QP.move rfl rfl).read ?_
        refine Sq.quiet (i := 12) rfl (Want.yes rfl rfl rfl rfl) rfl (ltN rfl) (QP.fieldAddr rfl rfl f39_1).read ?_
        refine Sq.quiet (i := 13) rfl (Want.yes rfl rfl rfl rfl) rfl (ltN rfl) (QR.load rfl rfl g37 (Pair.sub_src _)) ?_
        refine Sq.quiet (i := 14) rfl (Want.yes rfl rfl rfl rfl) rfl (ltN rfl) (QR.load rfl rfl g35 (Bs.sub _)) ?_
        refine Sq.eff (i := 15) rfl (Want.yes rfl rfl rfl rfl) rfl (ltN rfl) (EF.call rfl ce38 rfl Takes.nil (fun F' hle hr => contains_spec F' (((x).pair).src) (s))) ?_
        rintro _ _ ⟨_, ⟨rfl, rfl⟩, rfl⟩
        refine J.app ?_
        refine J.caseB (fun c149 => ?_) (fun c149 => ?_)
        ·skip
         refine Sq.quiet (i := 16) rfl (Want.none rfl) rfl (ltN rfl) (QP.pick_t rfl rfl rfl).read ?_
         refine Sq.quiet (i := 17) rfl (Want.none rfl) rfl (ltN rfl) (QP.move rfl rfl).read ?_
         refine Sq.quiet (i := 18) rfl (Want.yes rfl rfl rfl rfl) rfl (ltN rfl) (QP.fieldAddr rfl rfl f39_1).read ?_
         refine Sq.quiet (i := 19) rfl (Want.yes rfl rfl rfl rfl) rfl (ltN rfl) (QP.fieldAddr rfl rfl f37_1).read ?_
         refine Sq.quiet (i := 20) rfl (Want.yes rfl rfl rfl rfl) rfl (ltN rfl) (QR.load1 rfl rfl g3 ((Pair.sub_src _).trans (Prefix.sub_len _))) ?_
         refine Sq.quiet (i := 21) rfl (Want.yes rfl rfl rfl rfl) rfl (ltN rfl) (QP.move rfl rfl).read ?_
         refine Sq.quiet (i := 22) rfl (Want.yes rfl rfl rfl rfl) rfl (ltN rfl) (QP.gtr rfl rfl rfl).read ?_
         refine J.caseD (fun c156 => ?_) (fun c156 => ?_)
         ·skip
          refine Sq.quiet (i := 23) rfl (Want.none rfl) rfl (ltN rfl) (QP.pick_t rfl rfl rfl).read ?_
          refine Sq.nil ?_
          refine hk34 _ _ ?_
          refine Run.cond_t rfl ?_
          refine Run.seq fun k35 hk35 => ?_
          refine Run.region ?_
          show Sq _ _ _ [0, 1, 2, 3] _ _ _ _
          refine Sq.quiet (i := 0) rfl (Want.none rfl) rfl (ltN rfl) (QP.fieldAddr rfl rfl f39_1).read ?_
          refine Sq.quiet (i := 1) rfl (Want.none rfl) rfl (ltN rfl) (QP.fieldAddr rfl rfl f37_1).read ?_
          refine Sq.quiet (i := 2) rfl (Want.none rfl) rfl (ltN rfl) (QR.load1 rfl rfl g3 ((Pair.sub_src _).trans (Prefix.sub_len _))) ?_
          refine Sq.quiet (i := 3) rfl (Want.none rfl) rfl (ltN rfl) (QP.assign rfl rfl).read ?_
          refine Sq.nil ?_
          refine hk35 _ _ ?_
          refine Run.region ?_
          show Sq _ _ _ [0, 1, 2, 3, 4] _ _ _ _
          refine Sq.quiet (i := 0) rfl (Want.none rfl) rfl (ltN rfl) (QP.move rfl rfl).read ?_
          refine Sq.quiet (i := 1) rfl (Want.none rfl) rfl (ltN rfl) (QP.move rfl rfl).read ?_
          refine Sq.quiet (i := 2) rfl (Want.none rfl) rfl (ltN rfl) (QP.indexAddr rfl rfl rfl Try.underlying22 z41 (by first | omega | (simp <;> omega)) (by first | omega | (simp <;> omega))).read ?_
          refine Sq.quiet (i := 3) rfl (Want.none rfl) rfl (ltN rfl) (QR.loadSl rfl rfl g41 Entry.enc_len (SlAt.own Entry.enc_len (by repeat constructor)) hi) ?_
          refine Sq.act (i := 4) rfl (Want.none rfl) rfl (EF.storeA rfl rfl rfl z41 (SetL.all (Entry.enc_len _) (Entry.enc_len _)) (Entry.enc_cell _)) ?_
          rintro _ _ rfl
          refine Sq.nil ?_
          refine hk32 _ _ ?_
          refine Run.region ?_
          show Sq _ _ _ [0, 1, 2] _ _ _ _
          refine Sq.quiet (i := 0) rfl (Want.none rfl) rfl (ltN rfl) (QP.move rfl rfl).read ?_
          refine Sq.quiet (i := 1) rfl (Want.none rfl) rfl (ltN rfl) (QP.add64 rfl rfl rfl (by first | omega | (simp <;> omega)) (by first | omega | (simp <;> omega))).read ?_
          refine Sq.quiet (i := 2) rfl (Want.none rfl) rfl (ltN rfl) (QP.assign rfl rfl).read ?_
          refine Sq.nil ?_
          exact J.envJ (J.keep (.cons (by repeat constructor) (.cons (by repeat constructor) (.cons (by repeat constructor) (.cons (by repeat constructor) (.cons (by repeat constructor) Takes.nil))))) (hl29 (i + 1) ((x.pair.src.len.val, x)) (⟨by omega, by rw [take_succ_get hi]; have := hfs.step x; unfold fstep at this; rw [show candB s d n x = true from candB_iff.2 ⟨c138, c143, c149⟩, decide_eq_true c156] at this; exact this⟩) (by omega))) ⟨rfl, rfl, rfl, rfl, rfl, rfl, rfl, rfl, rfl, rfl, trivial⟩
         ·skip
          refine Sq.quiet (i := 23) rfl (Want.none rfl) rfl (ltN rfl) (QP.pick_t rfl rfl rfl).read ?_
          refine Sq.nil ?_
          refine hk34 _ _ ?_
          refine Run.cond_f rfl ?_
          refine Run.skip ?_
          refine hk32 _ _ ?_
          refine Run.region ?_
          show Sq _ _ _ [0, 1, 2] _ _ _ _
          refine Sq.quiet (i := 0) rfl (Want.none rfl) rfl (ltN rfl) (QP.move rfl rfl).read ?_
          refine Sq.quiet (i := 1) rfl (Want.none rfl) rfl (ltN rfl) (QP.add64 rfl rfl rfl (by first | omega | (simp <;> omega)) (by first | omega | (simp <;> omega))).read ?_
          refine Sq.quiet (i := 2) rfl (Want.none rfl) rfl (ltN rfl) (QP.assign rfl rfl).read ?_
          refine Sq.nil ?_
          exact J.envJ (J.keep (.cons (by repeat constructor) (.cons (by repeat constructor) (.cons (by repeat constructor) (.cons (by repeat constructor) (.cons (by repeat constructor) Takes.nil))))) (hl29 (i + 1) (r) (⟨by omega, by rw [take_succ_get hi]; have := hfs.step x; unfold fstep at this; rw [decide_eq_false c156, Bool.and_false] at this; exact this⟩) (by omega))) ⟨rfl, rfl, rfl, rfl, rfl, rfl, rfl, rfl, rfl, rfl, trivial⟩
        ·skip
         refine Sq.quiet (i := 16) rfl (Want.none rfl) rfl (ltN rfl) (QP.pick_t rfl rfl rfl).read ?_
         refine Sq.quiet (i := 17) rfl (Want.none rfl) rfl (ltN rfl) (QP.move rfl rfl).read ?_
         refine Sq.skip (i := 18) rfl (Want.no rfl rfl rfl rfl) rfl (ltN rfl) ?_
         refine Sq.skip (i := 19) rfl (Want.no rfl rfl rfl rfl) rfl (ltN rfl) ?_
         refine Sq.skip (i := 20) rfl (Want.no rfl rfl rfl rfl) rfl (ltN rfl) ?_
         refine Sq.skip (i := 21) rfl (Want.no rfl rfl rfl rfl) rfl (ltN rfl) ?_
         refine Sq.skip (i := 22) rfl (Want.no rfl rfl rfl rfl) rfl (ltN rfl) ?_
         refine Sq.quiet (i := 23) rfl (Want.none rfl) rfl (ltN rfl) (QP.pick_f rfl rfl rfl).read ?_
         refine Sq.nil ?_
         refine hk34 _ _ ?_
         refine Run.cond_f rfl ?_
         refine Run.skip ?_
         refine hk32 _ _ ?_
         refine Run.region ?_
         show Sq _ _ _ [0, 1, 2] _ _ _ _
         refine Sq.quiet (i := 0) rfl (Want.none rfl) rfl (ltN rfl) (QP.move rfl rfl).read ?_
         refine Sq.quiet (i := 1) rfl (Want.none rfl) rfl (ltN rfl) (QP.add64 rfl rfl rfl (by first | omega | (simp <;> omega)) (by first | omega | (simp <;> omega))).read ?_
         refine Sq.quiet (i := 2) rfl (Want.none rfl) rfl (ltN rfl) (QP.assign rfl rfl).read ?_
         refine Sq.nil ?_
         exact J.envJ (J.keep (.cons (by repeat constructor) (.cons (by repeat constructor) (.cons (by repeat constructor) (.cons (by repeat constructor) (.cons (by repeat constructor) Takes.nil))))) (hl29 (i + 1) (r) (⟨by omega, by rw [take_succ_get hi]; have := hfs.step x; unfold fstep at this; rw [show candB s d n x = false from Bool.eq_false_iff.2 fun h => by rw [(candB_iff.1 h).2.2] at c149; cases c149] at this; exact this⟩) (by omega))) ⟨rfl, rfl, rfl, rfl, rfl, rfl, rfl, rfl, rfl, rfl, trivial⟩
       ·skip
        refine Sq.quiet (i := 10) rfl (Want.none rfl) rfl (ltN rfl) (QP.pick_t rfl rfl rfl).read ?_
        refine Sq.quiet (i := 11) rfl (Want.none rfl) rfl (ltN rfl) (QP.move rfl rfl).read ?_
        refine Sq.skip (i := 12) rfl (Want.no rfl rfl rfl rfl) rfl (ltN rfl) ?_
        refine Sq.skip (i := 13) rfl (Want.no rfl rfl rfl rfl) rfl (ltN rfl) ?_
        refine Sq.skip (i := 14) rfl (Want.no rfl rfl rfl rfl) rfl (ltN rfl) ?_
        refine Sq.skip (i := 15) rfl (Want.no rfl rfl rfl rfl) rfl (ltN rfl) ?_
        refine Sq.quiet (i := 16) rfl (Want.none rfl) rfl (ltN rfl) (QP.pick_f rfl rfl rfl).read ?_
        refine Sq.quiet (i := 17) rfl (Want.none rfl) rfl (ltN rfl) (QP.move rfl rfl).read ?_
        refine Sq.skip (i := 18) rfl (Want.no rfl rfl rfl rfl) rfl (ltN rfl) ?_
        refine Sq.skip (i := 19) rfl (Want.no rfl rfl rfl rfl) rfl (ltN rfl) ?_
        refine Sq.skip (i := 20) rfl (Want.no rfl rfl rfl rfl) rfl (ltN rfl) ?_
        refine Sq.skip (i := 21) rfl (Want.no rfl rfl rfl rfl) rfl (ltN rfl) ?_
        refine Sq.skip (i := 22) rfl (Want.no rfl rfl rfl rfl) rfl (ltN rfl) ?_
        refine Sq.quiet (i := 23) rfl (Want.none rfl) rfl (ltN rfl) (QP.pick_f rfl rfl rfl).read ?_
        refine Sq.nil ?_
        refine hk34 _ _ ?_
        refine Run.cond_f rfl ?_
        refine Run.skip ?_
        refine hk32 _ _ ?_
        refine Run.region ?_
        show Sq _ _ _ [0, 1, 2] _ _ _ _
        refine Sq.quiet (i := 0) rfl (Want.none rfl) rfl (ltN rfl) (QP.move rfl rfl).read ?_
        refine Sq.quiet (i := 1) rfl (Want.none rfl) rfl (ltN rfl) (QP.add64 rfl rfl rfl (by first | omega | (simp <;> omega)) (by first | omega | (simp <;> omega))).read ?_
        refine Sq.quiet (i := 2) rfl (Want.none rfl) rfl (ltN rfl) (QP.assign rfl rfl).read ?_
        refine Sq.nil ?_
        exact J.envJ (J.keep (.cons (by repeat constructor) (.cons (by repeat constructor) (.cons (by repeat constructor) (.cons (by repeat constructor) (.cons (by repeat constructor) Takes.nil))))) (hl29 (i + 1) (r) (⟨by omega, by rw [take_succ_get hi]; have := hfs.step x; unfold fstep at this; rw [show candB s d n x = false from Bool.eq_false_iff.2 fun h => by rw [(candB_iff.1 h).2.1] at c143; cases c143] at this; exact this⟩) (by omega))) ⟨rfl, rfl, rfl, rfl, rfl, rfl, rfl, rfl, rfl, rfl, trivial⟩
      ·skip
       refine Sq.quiet (i := 5) rfl (Want.none rfl) rfl (ltN rfl) (QP.move rfl rfl).read ?_
       refine Sq.skip (i := 6) rfl (Want.no rfl rfl rfl rfl) rfl (ltN rfl) ?_
       refine Sq.skip (i := 7) rfl (Want.no rfl rfl rfl rfl) rfl (ltN rfl) ?_
       refine Sq.skip (i := 8) rfl (Want.no rfl rfl rfl rfl) rfl (ltN rfl) ?_
       refine Sq.skip (i := 9) rfl (Want.no rfl rfl rfl rfl) rfl (ltN rfl) ?_
       refine Sq.quiet (i := 10) rfl (Want.none rfl) rfl (ltN rfl) (QP.pick_f rfl rfl rfl).read ?_
       refine Sq.quiet (i := 11) rfl (Want.none rfl) rfl (ltN rfl) (QP.move rfl rfl).read ?_
       refine Sq.skip (i := 12) rfl (Want.no rfl rfl rfl rfl) rfl (ltN rfl) ?_
       refine Sq.skip (i := 13) rfl (Want.no rfl rfl rfl rfl) rfl (ltN rfl) ?_
       refine Sq.skip (i := 14) rfl (Want.no rfl rfl rfl rfl) rfl (ltN rfl) ?_
       refine Sq.skip (i := 15) rfl (Want.no rfl rfl rfl rfl) rfl (ltN rfl) ?_
       refine Sq.quiet (i := 16) rfl (Want.none rfl) rfl (ltN rfl) (QP.pick_f rfl rfl rfl).read ?_
       refine Sq.quiet (i := 17) rfl (Want.none rfl) rfl (ltN rfl) (QP.move rfl rfl).read ?_
       refine Sq.skip (i := 18) rfl (Want.no rfl rfl rfl rfl) rfl (ltN rfl) ?_
       refine Sq.skip (i := 19) rfl (Want.no rfl rfl rfl rfl) rfl (ltN rfl) ?_
       refine Sq.skip (i := 20) rfl (Want.no rfl rfl rfl rfl) rfl (ltN rfl) ?_
       refine Sq.skip (i := 21) rfl (Want.no rfl rfl rfl rfl) rfl (ltN rfl) ?_
       refine Sq.skip (i := 22) rfl (Want.no rfl rfl rfl rfl) rfl (ltN rfl) ?_
       refine Sq.quiet (i := 23) rfl (Want.none rfl) rfl (ltN rfl) (QP.pick_f rfl rfl rfl).read ?_
       refine Sq.nil ?_
       refine hk34 _ _ ?_
       refine Run.cond_f rfl ?_
       refine Run.skip ?_
       refine hk32 _ _ ?_
       refine Run.region ?_
       show Sq _ _ _ [0, 1, 2] _ _ _ _
       refine Sq.quiet (i := 0) rfl (Want.none rfl) rfl (ltN rfl) (QP.move rfl rfl).read ?_
       refine Sq.quiet (i := 1) rfl (Want.none rfl) rfl (ltN rfl) (QP.add64 rfl rfl rfl (by first | omega | (simp <;> omega)) (by first | omega | (simp <;> omega))).read ?_
       refine Sq.quiet (i := 2) rfl (Want.none rfl) rfl (ltN rfl) (QP.assign rfl rfl).read ?_
       refine Sq.nil ?_
       exact J.envJ (J.keep (.cons (by repeat constructor) (.cons (by repeat constructor) (.cons (by repeat constructor) (.cons (by repeat constructor) (.cons (by repeat constructor) Takes.nil))))) (hl29 (i + 1) (r) (⟨by omega, by rw [take_succ_get hi]; have := hfs.step x; unfold fstep at this; rw [show candB s d n x = false from Bool.eq_false_iff.2 fun h => c138 (candB_iff.1 h).1] at this; exact this⟩) (by omega))) ⟨rfl, rfl, rfl, rfl, rfl, rfl, rfl, rfl, rfl, rfl, trivial⟩
     ·skip
      refine Sq.nil ?_
      refine hk31 _ _ ?_
      refine Run.cond_f rfl ?_
      refine Run.exit rfl ?_
      refine hk27 _ _ ?_
      refine Run.seq fun k36 hk36 => ?_
      refine Run.seq fun k37 hk37 => ?_
      refine Run.region ?_
      show Sq _ _ _ [0, 1] _ _ _ _
      have hfs2 := hfs
      rw [show L'.take i = L' from List.take_of_length_le (by omega)] at hfs2
      refine Sq.quiet (i := 0) rfl (Want.none rfl) rfl (ltN rfl) (QP.move rfl rfl).read ?_
      refine J.caseB (fun c165 => ?_) (fun c165 => ?_)
      ·skip
       refine Sq.quiet (i := 1) rfl (Want.none rfl) rfl (ltN rfl) (QP.not rfl rfl).read ?_
       refine Sq.nil ?_
       refine hk37 _ _ ?_
       refine Run.cond_f rfl ?_
       refine Run.skip ?_
       refine hk36 _ _ ?_
       refine Run.seq fun k38 hk38 => ?_
       refine Run.regionD (M := [0, 1, 3, 7, 15, 7, 7, 103, 231, 487, 1023, 2047, 4095, 8191, 16383, 8191, 8191, 106495, 237567, 499711, 1048575, 2097151, 4194303, 8388607, 16777215, 33554431]) (q := 25165823) (r := 541200) (by kernel_rfl) ?_
       obtain ⟨_, q, hq1, hq2, hq3⟩ := htop.yes (by simpa using c165)
       rw [List.take_of_length_le (Nat.le_refl _)] at hq3
       obtain ⟨x, hxk, hxq⟩ : ∃ x, P[k]? = some x ∧ x.pair = q := by rw [List.getElem?_map] at hq1; cases hpk : P[k]? with | none => rw [hpk] at hq1; cases hq1 | some x => rw [hpk] at hq1; exact ⟨x, rfl, by simpa using hq1⟩
       subst hxq
       have hkl : k < P.length := (List.getElem?_eq_some_iff.1 hxk).1
       obtain ⟨hr1, hr2, hr3⟩ := means_some hP hex hdl2 hfs2 (List.mem_of_getElem? hxk) hq2 (fun y hy hm => hq3 y.pair (List.mem_map.2 ⟨y, hy, rfl⟩) hm)
       obtain ⟨bp, op, rfl⟩ := hhp.get (by omega)
       refine Dw.pure (i := 0) rfl (by kernel_rfl) (Want.none rfl) rfl (ltN rfl) (QP.move rfl rfl) ?_
       refine Dw.pure (i := 1) rfl (by kernel_rfl) (Want.none rfl) rfl (ltN rfl) (QP.geq rfl rfl rfl) ?_
       refine J.decT (by omega) ?_
       refine Dw.pure (i := 2) rfl (by kernel_rfl) (Want.none rfl) rfl (ltN rfl) (QP.move rfl rfl) ?_
       refine Dw.pure (i := 3) rfl (by kernel_rfl) (Want.yes rfl rfl rfl rfl) rfl (ltN rfl) (QP.fieldAddr rfl rfl f41_1) ?_
       refine Dw.read (i := 4) rfl (by kernel_rfl) (Want.yes rfl rfl rfl rfl) rfl (ltN rfl) (QR.load1 rfl rfl g3 (Entry.sub_if_ _)) ?_
       refine Dw.pure (i := 5) rfl (by kernel_rfl) (Want.yes rfl rfl rfl rfl) rfl (ltN rfl) (QP.move rfl rfl) ?_
       refine Dw.pure (i := 6) rfl (by kernel_rfl) (Want.yes rfl rfl rfl rfl) rfl (ltN rfl) (QP.move rfl rfl) ?_
       refine Dw.pure (i := 7) rfl (by kernel_rfl) (Want.yes rfl rfl rfl rfl) rfl (ltN rfl) (QP.indexAddr rfl rfl rfl Try.underlying22 z41 (by first | omega | (simp <;> omega)) (by first | omega | (simp <;> omega))) ?_
       refine Dw.pure (i := 8) rfl (by kernel_rfl) (Want.yes rfl rfl rfl rfl) rfl (ltN rfl) (QP.fieldAddr rfl rfl f41_1) ?_
       refine Dw.read (i := 9) rfl (by kernel_rfl) (Want.yes rfl rfl rfl rfl) rfl (ltN rfl) (QR.loadSlF1 rfl rfl g3 Entry.enc_len (SlAt.own Entry.enc_len (by repeat constructor)) hxk (Entry.sub_if_ _)) ?_
       refine Dw.pure (i := 10) rfl (by kernel_rfl) (Want.yes rfl rfl rfl rfl) rfl (ltN rfl) (QP.eql rfl rfl rfl) ?_
       refine J.decT (by rw [hr2]) ?_
       refine Dw.pure (i := 11) rfl (by kernel_rfl) (Want.none rfl) rfl (ltN rfl) (QP.pick_t rfl rfl rfl) ?_
       refine Dw.pure (i := 12) rfl (by kernel_rfl) (Want.none rfl) rfl (ltN rfl) (QP.move rfl rfl) ?_
       refine Dw.pure (i := 13) rfl (by kernel_rfl) (Want.yes rfl rfl rfl rfl) rfl (ltN rfl) (QP.fieldAddr rfl rfl f41_2) ?_
       refine Dw.read (i := 14) rfl (by kernel_rfl) (Want.yes rfl rfl rfl rfl) rfl (ltN rfl) (QR.load rfl rfl g35 (Entry.sub_hop _)) ?_
       refine Dw.pure (i := 15) rfl (by kernel_rfl) (Want.yes rfl rfl rfl rfl) rfl (ltN rfl) (QP.move rfl rfl) ?_
       refine Dw.pure (i := 16) rfl (by kernel_rfl) (Want.yes rfl rfl rfl rfl) rfl (ltN rfl) (QP.move rfl rfl) ?_
       refine Dw.pure (i := 17) rfl (by kernel_rfl) (Want.yes rfl rfl rfl rfl) rfl (ltN rfl) (QP.indexAddr rfl rfl rfl Try.underlying22 z41 (by first | omega | (simp <;> omega)) (by first | omega | (simp <;> omega))) ?_
       refine Dw.pure (i := 18) rfl (by kernel_rfl) (Want.yes rfl rfl rfl rfl) rfl (ltN rfl) (QP.fieldAddr rfl rfl f41_2) ?_
       refine Dw.read (i := 19) rfl (by kernel_rfl) (Want.yes rfl rfl rfl rfl) rfl (ltN rfl) (QR.loadSlF rfl rfl g35 Entry.enc_len (SlAt.own Entry.enc_len (by repeat constructor)) hxk (Entry.sub_hop _)) ?_
       refine Dw.pure (i := 20) rfl (by kernel_rfl) (Want.yes rfl rfl rfl rfl) rfl (ltN rfl) (QP.eql_agg eq35 rfl rfl rfl) ?_
       refine J.decT (hr3) ?_
       refine Dw.pure (i := 21) rfl (by kernel_rfl) (Want.none rfl) rfl (ltN rfl) (QP.pick_t rfl rfl rfl) ?_
       refine Dw.pure (i := 22) rfl (by kernel_rfl) (Want.none rfl) rfl (ltN rfl) (QP.move rfl rfl) ?_
       refine Dw.eff (i := 23) (by kernel_rfl) (by kernel_rfl) ?_
       refine One.mk (o := _) (l := []) rfl (by kernel_rfl) (Want.yes rfl rfl rfl rfl) rfl (ltN rfl) (EF.call rfl ce10 rfl Takes.nil (fun F' hle hr => live_spec F')) (by kernel_rfl) ?_
       rintro _ _ ⟨_, ⟨rfl, rfl⟩, rfl⟩
       refine ⟨fun _ h => (by cases h), ?_⟩
       refine J.app ?_
       refine Dw.pure (i := 24) rfl (by kernel_rfl) (Want.none rfl) rfl (ltN rfl) (QP.pick_t rfl rfl rfl) ?_
       refine Dw.eff (i := 25) (by kernel_rfl) (by kernel_rfl) ?_
       refine One.mk (o := _) (l := []) rfl (by kernel_rfl) (Want.none rfl) rfl (ltN rfl) ((QP.assign rfl rfl).eff) (by kernel_rfl) ?_
       rintro _ _ ⟨rfl, rfl⟩
       refine ⟨fun _ h => (by cases h), ?_⟩
       refine Dw.nil (by kernel_rfl) ?_
       refine hk38 _ _ ?_
       refine Run.ret ?_
       exact J.ends (res_tmp rfl rfl) Takes.nil ⟨rfl, rfl⟩
      ·skip
       refine Sq.quiet (i := 1) rfl (Want.none rfl) rfl (ltN rfl) (QP.not rfl rfl).read ?_
       refine Sq.nil ?_
       refine hk37 _ _ ?_
       refine Run.cond_t rfl ?_
       refine Run.seq fun k39 hk39 => ?_
       refine Run.region ?_
       show Sq _ _ _ [0, 1, 2, 3, 4, 5] _ _ _ _
       have hneg : r.1 < 0 := means_none hP hex hfs2 (fun x hx => htop.no (by simpa using c165) x.pair (by rw [List.take_of_length_le (Nat.le_refl _)]; exact List.mem_map.2 ⟨x, hx, rfl⟩))
       refine Sq.quiet (i := 0) rfl (Want.none rfl) rfl (ltN rfl) (QP.move rfl rfl).read ?_
       refine Sq.quiet (i := 1) rfl (Want.none rfl) rfl (ltN rfl) (QP.lss rfl rfl rfl).read ?_
       refine J.decT (hneg) ?_
       refine Sq.quiet (i := 2) rfl (Want.none rfl) rfl (ltN rfl) (QP.move rfl rfl).read ?_
       refine Sq.eff (i := 3) rfl (Want.yes rfl rfl rfl rfl) rfl (ltN rfl) (EF.call rfl ce10 rfl Takes.nil (fun F' hle hr => live_spec F')) ?_
       rintro _ _ ⟨_, ⟨rfl, rfl⟩, rfl⟩
       refine J.app ?_
       refine Sq.quiet (i := 4) rfl (Want.none rfl) rfl (ltN rfl) (QP.pick_t rfl rfl rfl).read ?_
       refine Sq.quiet (i := 5) rfl (Want.none rfl) rfl (ltN rfl) (QP.assign rfl rfl).read ?_
       refine Sq.nil ?_
       refine hk39 _ _ ?_
       refine Run.ret ?_
       exact J.ends (res_tmp rfl rfl) Takes.nil ⟨rfl, rfl⟩
end Slb
