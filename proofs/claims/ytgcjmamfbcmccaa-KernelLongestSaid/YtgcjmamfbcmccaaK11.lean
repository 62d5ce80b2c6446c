/- K11: a part of the proof that a law of this package holds for every input; no condition. -/
import Derived.Test.YtgcjmamfbcmccaaK8
import Derived.Test.YtgcjmamfbcmccaaK10
namespace Slb
open Go Go.Proofs
set_option maxRecDepth 20000
theorem gt_ok {M1 M2 : TabE} {D L : List Entry} (hD : D.Perm (valsE M1 ++ valsE M2)) (hL : OrdE M2 L) (h1 : M1 = []) {x : Entry} : x ∈ D ↔ x ∈ L := by
  subst h1
  constructor
  · exact fun h => hL.perm.symm.subset (hD.subset h)
  · exact fun h => hD.symm.subset (hL.perm.subset h)

theorem law_longest (F : Fr) {a : Option Addr} {c : Nat} {xs : List Entry} (hc : xs.length ≤ 9223372036854775807) (ha : ArgSl F a 51 Entry.enc xs) (s d : Bs 16) : Spec Try.prog 5 #[.slice a xs.length c, .agg (Bs.enc s).toArray, .agg (Bs.enc d).toArray] [] F (fun v S => v = .bool true ∧ S = []) := by
 refine Spec.intro (N := 108) (args := [.slice a xs.length c, .agg (Bs.enc s).toArray, .agg (Bs.enc d).toArray]) Try.func5 rfl rfl (by simp) ?_
 refine Run.seq fun k1 hk1 => ?_
 refine Run.region ?_
 show Sq _ _ _ [0, 1, 2] _ _ _ _
 refine Sq.eff (i := 0) rfl (Want.none rfl) rfl (ltN rfl) (EF.boxA rfl rfl) ?_
 rintro _ _ ⟨b4, rfl, rfl⟩
 refine Sq.eff (i := 1) rfl (Want.none rfl) rfl (ltN rfl) (EF.boxA rfl rfl) ?_
 rintro _ _ ⟨b5, rfl, rfl⟩
 refine Sq.quiet (i := 2) rfl (Want.none rfl) rfl (ltN rfl) (QP.assign rfl rfl).read ?_
 refine Sq.nil ?_
 refine hk1 _ _ ?_
 refine Run.seq fun k2 hk2 => ?_
 refine Run.seq fun k3 hk3 => ?_
 refine Run.region ?_
 show Sq _ _ _ [0, 1, 2] _ _ _ _
 refine Sq.quiet (i := 0) rfl (Want.none rfl) rfl (ltN rfl) (QP.move rfl rfl).read ?_
 refine Sq.quiet (i := 1) rfl (Want.none rfl) rfl (ltN rfl) (QP.len rfl rfl rfl Try.underlying22).read ?_
 refine Sq.quiet (i := 2) rfl (Want.none rfl) rfl (ltN rfl) (QP.gtr rfl rfl rfl).read ?_
 refine J.caseD (fun c16 => ?_) (fun c16 => ?_)
 ·skip
  refine Sq.nil ?_
  refine hk3 _ _ ?_
  refine Run.cond_t rfl ?_
  refine Run.seq fun k4 hk4 => ?_
  refine Run.region ?_
  show Sq _ _ _ [0, 1] _ _ _ _
  refine Sq.eff (i := 0) rfl (Want.none rfl) rfl (ltN rfl) (EF.call rfl ce8 rfl Takes.nil (fun F' hle hr => live_spec F')) ?_
  rintro _ _ ⟨_, ⟨rfl, rfl⟩, rfl⟩
  refine J.app ?_
  refine Sq.quiet (i := 1) rfl (Want.none rfl) rfl (ltN rfl) (QP.assign rfl rfl).read ?_
  refine Sq.nil ?_
  refine hk4 _ _ ?_
  refine Run.ret ?_
  exact J.ends (res_tmp rfl rfl) Takes.nil ⟨rfl, rfl⟩
 ·skip
  refine Sq.nil ?_
  refine hk3 _ _ ?_
  refine Run.cond_f rfl ?_
  refine Run.skip ?_
  refine hk2 _ _ ?_
  refine Run.seq fun k5 hk5 => ?_
  refine Run.region ?_
  show Sq _ _ _ [0, 1] _ _ _ _
  refine Sq.eff (i := 0) rfl (Want.none rfl) rfl (ltN rfl) (EF.call rfl ce9 rfl Takes.nil (fun F' hle hr => newK F')) ?_
  rintro _ _ ⟨_, ⟨kb, kr1, kr2, rfl, rfl⟩, rfl⟩
  refine J.app ?_
  refine Sq.quiet (i := 1) rfl (Want.none rfl) rfl (ltN rfl) (QP.assign rfl rfl).read ?_
  refine Sq.nil ?_
  refine hk5 _ _ ?_
  refine Run.seq fun k6 hk6 => ?_
  refine Run.seq fun k7 hk7 => ?_
  refine Run.region ?_
  show Sq _ _ _ [0, 1] _ _ _ _
  refine Sq.quiet (i := 0) rfl (Want.none rfl) rfl (ltN rfl) (QP.move rfl rfl).read ?_
  refine Sq.quiet (i := 1) rfl (Want.none rfl) rfl (ltN rfl) (QP.ptr_eq_nil rfl rfl rfl Try.underlying24).read ?_
  refine Sq.nil ?_
  refine hk7 _ _ ?_
  refine Run.cond_f rfl ?_
  refine Run.skip ?_
  refine hk6 _ _ ?_
  refine Run.seq fun k8 hk8 => ?_
  refine Run.region ?_
  show Sq _ _ _ [0, 1, 2, 3] _ _ _ _
  have hl150 : xs.length ≤ 150 := by omega
  refine Sq.quiet (i := 0) rfl (Want.none rfl) rfl (ltN rfl) (QP.move rfl rfl).read ?_
  refine Sq.quiet (i := 1) rfl (Want.none rfl) rfl (ltN rfl) (QP.move rfl rfl).read ?_
  refine Sq.eff (i := 2) rfl (Want.none rfl) rfl (ltN rfl) (EF.call rfl ce10 rfl (.cons (by repeat constructor) (.cons (by repeat constructor) Takes.nil)) (fun F' hle hr => import_spec F' ⟨hr _ _ (by repeat constructor)⟩ (ha.mono hle) (by omega) (by decide))) ?_
  rintro _ _ ⟨_, ⟨rfl, rfl⟩, rfl⟩
  refine J.app ?_
  refine Sq.quiet (i := 3) rfl (Want.none rfl) rfl (ltN rfl) (QP.assign rfl rfl).read ?_
  refine Sq.nil ?_
  refine hk8 _ _ ?_
  refine Run.seq fun k9 hk9 => ?_
  refine Run.region ?_
  show Sq _ _ _ [0, 1, 2, 3, 4, 5, 6, 7, 8, 9] _ _ _ _
  have hgood : GoodE (xs.foldl (impK []) []) := GoodE.imps xs GoodE.nil
  obtain ⟨L, hL⟩ := hgood.ord
  have hMl2 : (xs.foldl (impK []) []).length ≤ 100000 := by have := (imp_len [] xs []).2; simp only [List.length_nil] at this; omega
  have hMl : (xs.foldl (impK []) []).length ≤ 1000000 := by omega
  have hLl : L.length ≤ 1000000 := by rw [hL.length]; exact hMl
  generalize hM : xs.foldl (impK []) [] = M2 at hgood hL hMl hMl2 ⊢
  have hLM := hL.length
  refine Sq.quiet (i := 0) rfl (Want.none rfl) rfl (ltN rfl) (QP.move rfl rfl).read ?_
  refine Sq.quiet (i := 1) rfl (Want.none rfl) rfl (ltN rfl) (QR.load rfl rfl g30 (Bs.sub _)) ?_
  refine Sq.quiet (i := 2) rfl (Want.none rfl) rfl (ltN rfl) (QR.load rfl rfl g30 (Bs.sub _)) ?_
  refine Sq.eff (i := 3) rfl (Want.none rfl) rfl (ltN rfl) (EF.call rfl ce19 rfl (.cons (by repeat constructor) (.cons (by repeat constructor) Takes.nil)) (fun F' hle hr => lookup_spec F' ⟨hr _ _ (by repeat constructor)⟩ (by decide) hMl2 _ _)) ?_
  rintro _ _ ⟨_, ⟨D, hD, rfl, rfl⟩, rfl⟩
  refine J.app ?_
  refine Sq.quiet (i := 4) rfl (Want.none rfl) rfl (ltN rfl) (QP.move rfl rfl).read ?_
  have hfd := look_found D s d
  generalize hr : lookF D s d = r at hfd
  have hmem : ∀ x, x ∈ D ↔ x ∈ L := fun x => gt_ok hD hL rfl
  refine Sq.quiet (i := 5) rfl (Want.none rfl) rfl (ltN rfl) (QP.extract rfl rfl rfl).read ?_
  refine Sq.quiet (i := 6) rfl (Want.none rfl) rfl (ltN rfl) (QP.extract rfl rfl rfl).read ?_
  refine J.caseB (fun c30 => ?_) (fun c30 => ?_)
  ·skip
   refine Sq.eff (i := 7) rfl (Want.none rfl) rfl (ltN rfl) (EF.allocA (l := Entry.enc Entry.zero) rfl zero38) ?_
   rintro _ _ ⟨b9, rfl, rfl⟩
   refine Sq.act (i := 8) rfl (Want.none rfl) rfl (EF.storeA rfl rfl rfl z38 (SetL.all (Entry.enc_len _) (Entry.enc_len _)) (Entry.enc_cell _)) ?_
   rintro _ _ rfl
   refine Sq.quiet (i := 9) rfl (Want.none rfl) rfl (ltN rfl) (QP.assign rfl rfl).read ?_
   refine Sq.nil ?_
   refine hk9 _ _ ?_
   refine Run.seq fun k10 hk10 => ?_
   refine Run.region ?_
   show Sq _ _ _ [0, 1, 2] _ _ _ _
   refine Sq.quiet (i := 0) rfl (Want.none rfl) rfl (ltN rfl) (QP.move rfl rfl).read ?_
   refine Sq.eff (i := 1) rfl (Want.none rfl) rfl (ltN rfl) (EF.call rfl ce11 rfl (.cons (by repeat constructor) Takes.nil) (fun F' hle hr => imported_spec F' ⟨hr _ _ (by repeat constructor)⟩ hMl hL)) ?_
   rintro v32 _ ⟨_, rfl, rfl⟩
   refine J.app ?_
   refine Sq.slCase (v := v32) (xs := L) (by repeat constructor) (fun a32 c32 hv32 hh32 => ?_)
   subst hv32
   refine Sq.quiet (i := 2) rfl (Want.none rfl) rfl (ltN rfl) (QP.assign rfl rfl).read ?_
   refine Sq.nil ?_
   refine hk10 _ _ ?_
   refine Run.seq fun k11 hk11 => ?_
   refine Run.seq fun k12 hk12 => ?_
   refine Run.region ?_
   show Sq _ _ _ [0, 1, 2, 3, 4, 5, 6, 7, 8, 9] _ _ _ _
   refine Sq.quiet (i := 0) rfl (Want.none rfl) rfl (ltN rfl) (QP.move rfl rfl).read ?_
   refine Sq.quiet (i := 1) rfl (Want.none rfl) rfl (ltN rfl) (QP.len rfl rfl rfl Try.underlying22).read ?_
   refine Sq.quiet (i := 2) rfl (Want.none rfl) rfl (ltN rfl) (QP.move rfl rfl).read ?_
   refine Sq.quiet (i := 3) rfl (Want.none rfl) rfl (ltN rfl) (QP.neq rfl rfl rfl).read ?_
   refine J.decF (by simp; omega) ?_
   refine Sq.quiet (i := 4) rfl (Want.none rfl) rfl (ltN rfl) (QP.move rfl rfl).read ?_
   refine Sq.quiet (i := 5) rfl (Want.yes rfl rfl rfl rfl) rfl (ltN rfl) (QP.move rfl rfl).read ?_
   refine Sq.eff (i := 6) rfl (Want.yes rfl rfl rfl rfl) rfl (ltN rfl) (EF.call rfl ce17 rfl (.cons (by repeat constructor) Takes.nil) (fun F' hle hr => list1_spec F' ⟨hr _ _ (by repeat constructor)⟩ (by decide) (L := []) InOrder.nil)) ?_
   rintro v39 _ ⟨_, rfl, rfl⟩
   refine J.app ?_
   refine Sq.slCase (v := v39) (xs := ([] : List Entry)) (by repeat constructor) (fun a39 c39 hv39 hh39 => ?_)
   subst hv39
   refine Sq.quiet (i := 7) rfl (Want.yes rfl rfl rfl rfl) rfl (ltN rfl) (QP.len rfl rfl rfl Try.underlying22).read ?_
   refine Sq.quiet (i := 8) rfl (Want.yes rfl rfl rfl rfl) rfl (ltN rfl) (QP.neq rfl rfl rfl).read ?_
   refine J.decF (by simp) ?_
   refine Sq.quiet (i := 9) rfl (Want.none rfl) rfl (ltN rfl) (QP.pick_f rfl rfl rfl).read ?_
   refine Sq.nil ?_
   refine hk12 _ _ ?_
   refine Run.cond_f rfl ?_
   refine Run.skip ?_
   refine hk11 _ _ ?_
   refine Run.seq fun k13 hk13 => ?_
   refine Run.seq fun k14 hk14 => ?_
   refine Run.region ?_
   show Sq _ _ _ [0] _ _ _ _
   refine Sq.quiet (i := 0) rfl (Want.none rfl) rfl (ltN rfl) (QP.assign rfl rfl).read ?_
   refine Sq.nil ?_
   refine hk14 _ _ ?_
   refine Run.block ?_
   refine Run.loop1 (fun (i : Nat) => i ≤ L.length) (fun i => .cons 4 (.pointer (some ⟨b4, 0, none⟩)) (.cons 5 (.pointer (some ⟨b5, 0, none⟩)) (.cons 7 (.pointer (some ⟨kb, 0, none⟩)) (.cons 9 (.pointer (some ⟨b9, 0, none⟩)) (.cons 10 (.bool true) (.cons 11 (.slice a32 L.length c32) (.cons 12 (.int .i64 i) (.nil)))))))) (fun i => [blk b4 (Bs.enc s) 30, blk b5 (Bs.enc d) 30, blk b9 (Entry.enc r.1) 38, slA 38 51 Entry.enc (.slice a32 L.length c32) L]) (fun i => L.length - i) (0) (Nat.zero_le _) ?_ ?_
   ·exact fun _ j => J.envJ (J.keep (.cons (by repeat constructor) (.cons (by repeat constructor) (.cons (by repeat constructor) (.cons (by repeat constructor) Takes.nil)))) j) ⟨rfl, rfl, rfl, rfl, rfl, rfl, rfl, trivial⟩
   rintro i hile kl15 hl15
   refine Run.seq fun k16 hk16 => ?_
   refine Run.seq fun k17 hk17 => ?_
   refine Run.region ?_
   show Sq _ _ _ [0, 1, 2, 3, 4, 5, 6] _ _ _ _
   refine Sq.quiet (i := 0) rfl (Want.none rfl) rfl (ltN rfl) (QP.move rfl rfl).read ?_
   refine Sq.quiet (i := 1) rfl (Want.none rfl) rfl (ltN rfl) (QP.move rfl rfl).read ?_
   refine Sq.quiet (i := 2) rfl (Want.none rfl) rfl (ltN rfl) (QP.len rfl rfl rfl Try.underlying22).read ?_
   refine Sq.quiet (i := 3) rfl (Want.none rfl) rfl (ltN rfl) (QP.lss rfl rfl rfl).read ?_
   refine J.caseD (fun c46 => ?_) (fun c46 => ?_)
   ·skip
    refine Sq.quiet (i := 4) rfl (Want.none rfl) rfl (ltN rfl) (QP.move rfl rfl).read ?_
    refine Sq.quiet (i := 5) rfl (Want.yes rfl rfl rfl rfl) rfl (ltN rfl) (QP.move rfl rfl).read ?_
    refine Sq.quiet (i := 6) rfl (Want.none rfl) rfl (ltN rfl) (QP.pick_t rfl rfl rfl).read ?_
    refine Sq.nil ?_
    refine hk17 _ _ ?_
    refine Run.cond_t rfl ?_
    refine Run.skip ?_
    refine hk16 _ _ ?_
    refine Run.seq fun k18 hk18 => ?_
    refine Run.block ?_
    refine Run.seq fun k19 hk19 => ?_
    refine Run.region ?_
    show Sq _ _ _ [0, 1, 2, 3, 4, 5, 6] _ _ _ _
    obtain ⟨x, hi⟩ : ∃ x, L[i]? = some x := ⟨_, List.getElem?_eq_getElem (by omega)⟩
    obtain ⟨b0, o0, rfl⟩ := hh32.get (by omega)
    refine Sq.quiet (i := 0) rfl (Want.none rfl) rfl (ltN rfl) (QP.move rfl rfl).read ?_
    refine Sq.quiet (i := 1) rfl (Want.none rfl) rfl (ltN rfl) (QP.move rfl rfl).read ?_
    refine Sq.quiet (i := 2) rfl (Want.none rfl) rfl (ltN rfl) (QP.indexAddr rfl rfl rfl Try.underlying22 z38 (by first | omega | (simp <;> omega)) (by first | omega | (simp <;> omega))).read ?_
    refine Sq.quiet (i := 3) rfl (Want.none rfl) rfl (ltN rfl) (QP.fieldAddr rfl rfl f38_0).read ?_
    refine Sq.quiet (i := 4) rfl (Want.none rfl) rfl (ltN rfl) (QR.loadSlF rfl rfl g36 Entry.enc_len (SlAt.own Entry.enc_len (by repeat constructor)) hi (Entry.sub_pair _)) ?_
    refine Sq.eff (i := 5) rfl (Want.none rfl) rfl (ltN rfl) (EF.allocA (l := Pair.enc Pair.zero) rfl zero36) ?_
    rintro _ _ ⟨b13, rfl, rfl⟩
    refine Sq.act (i := 6) rfl (Want.none rfl) rfl (EF.storeA rfl rfl rfl z36 (SetL.all (Pair.enc_len _) (Pair.enc_len _)) (Pair.enc_cell _)) ?_
    rintro _ _ rfl
    refine Sq.nil ?_
    refine hk19 _ _ ?_
    refine Run.seq fun k20 hk20 => ?_
    refine Run.regionD (M := [0, 1, 3, 0, 15, 31, 63, 127, 255, 127, 1023, 2047, 4095, 8191, 16383, 32767, 8191, 73727, 204799, 466943, 1048575, 2097151]) (q := 4193259) (r := 557834) (by kernel_rfl) ?_
    refine Dw.pure (i := 0) rfl (by kernel_rfl) (Want.none rfl) rfl (ltN rfl) (QP.fieldAddr rfl rfl f36_0) ?_
    refine Dw.read (i := 1) rfl (by kernel_rfl) (Want.none rfl) rfl (ltN rfl) (QR.load rfl rfl g33 (Pair.sub_dst _)) ?_
    refine Dw.read (i := 3) rfl (by kernel_rfl) (Want.none rfl) rfl (ltN rfl) (QR.load rfl rfl g30 (Bs.sub _)) ?_
    refine Dw.eff (i := 2) (by kernel_rfl) (by kernel_rfl) ?_
    refine One.mk (o := _) (l := [3]) rfl (by kernel_rfl) (Want.none rfl) rfl (ltN rfl) (EF.call rfl ce20 rfl Takes.nil (fun F' hle hr => pfamily_spec F' (((x).pair).dst))) (by kernel_rfl) ?_
    rintro _ _ ⟨_, ⟨rfl, rfl⟩, rfl⟩
    refine ⟨?_, ?_⟩
    ·rw [List.forall_mem_cons]
     refine ⟨?_, fun _ h => (by cases h)⟩
     ·refine Look.app ?_
      exact Look.mk rfl rfl rfl (QR.load rfl rfl g30 (Bs.sub _))
    refine ?_
    refine J.app ?_
    refine Dw.eff (i := 4) (by kernel_rfl) (by kernel_rfl) ?_
    refine One.mk (o := _) (l := []) rfl (by kernel_rfl) (Want.none rfl) rfl (ltN rfl) (EF.call rfl ce21 rfl Takes.nil (fun F' hle hr => family_spec F' (d))) (by kernel_rfl) ?_
    rintro _ _ ⟨_, ⟨rfl, rfl⟩, rfl⟩
    refine ⟨fun _ h => (by cases h), ?_⟩
    refine J.app ?_
    refine Dw.pure (i := 5) rfl (by kernel_rfl) (Want.none rfl) rfl (ltN rfl) (QP.eql rfl rfl rfl) ?_
    refine J.caseD (fun c62 => ?_) (fun c62 => ?_)
    ·skip
     refine Dw.pure (i := 6) rfl (by kernel_rfl) (Want.none rfl) rfl (ltN rfl) (QP.move rfl rfl) ?_
     refine Dw.pure (i := 7) rfl (by kernel_rfl) (Want.yes rfl rfl rfl rfl) rfl (ltN rfl) (QP.fieldAddr rfl rfl f36_0) ?_
     refine Dw.read (i := 8) rfl (by kernel_rfl) (Want.yes rfl rfl rfl rfl) rfl (ltN rfl) (QR.load rfl rfl g33 (Pair.sub_dst _)) ?_
     refine Dw.read (i := 9) rfl (by kernel_rfl) (Want.yes rfl rfl rfl rfl) rfl (ltN rfl) (QR.load rfl rfl g30 (Bs.sub _)) ?_
     refine Dw.eff (i := 10) (by kernel_rfl) (by kernel_rfl) ?_
     refine One.mk (o := _) (l := []) rfl (by kernel_rfl) (Want.yes rfl rfl rfl rfl) rfl (ltN rfl) (EF.call rfl ce22 rfl Takes.nil (fun F' hle hr => contains_spec F' (((x).pair).dst) (d))) (by kernel_rfl) ?_
     rintro _ _ ⟨_, ⟨rfl, rfl⟩, rfl⟩
     refine ⟨fun _ h => (by cases h), ?_⟩
     refine J.app ?_
     refine J.caseB (fun c67 => ?_) (fun c67 => ?_)
     ·skip
      refine Dw.pure (i := 11) rfl (by kernel_rfl) (Want.none rfl) rfl (ltN rfl) (QP.pick_t rfl rfl rfl) ?_
      refine Dw.pure (i := 12) rfl (by kernel_rfl) (Want.none rfl) rfl (ltN rfl) (QP.move rfl rfl) ?_
      refine Dw.pure (i := 13) rfl (by kernel_rfl) (Want.yes rfl rfl rfl rfl) rfl (ltN rfl) (QP.fieldAddr rfl rfl f36_0) ?_
      refine Dw.pure (i := 14) rfl (by kernel_rfl) (Want.yes rfl rfl rfl rfl) rfl (ltN rfl) (QP.fieldAddr rfl rfl f33_1) ?_
      refine Dw.read (i := 15) rfl (by kernel_rfl) (Want.yes rfl rfl rfl rfl) rfl (ltN rfl) (QR.load1 rfl rfl g3 ((Pair.sub_dst _).trans (Prefix.sub_len _))) ?_
      refine Dw.pure (i := 16) rfl (by kernel_rfl) (Want.yes rfl rfl rfl rfl) rfl (ltN rfl) (QP.fieldAddr rfl rfl f38_0) ?_
      refine Dw.pure (i := 17) rfl (by kernel_rfl) (Want.yes rfl rfl rfl rfl) rfl (ltN rfl) (QP.fieldAddr rfl rfl f36_0) ?_
      refine Dw.pure (i := 18) rfl (by kernel_rfl) (Want.yes rfl rfl rfl rfl) rfl (ltN rfl) (QP.fieldAddr rfl rfl f33_1) ?_
      refine Dw.read (i := 19) rfl (by kernel_rfl) (Want.yes rfl rfl rfl rfl) rfl (ltN rfl) (QR.load1 rfl rfl g3 (((Entry.sub_pair _).trans (Pair.sub_dst _)).trans (Prefix.sub_len _))) ?_
      refine Dw.pure (i := 20) rfl (by kernel_rfl) (Want.yes rfl rfl rfl rfl) rfl (ltN rfl) (QP.gtr rfl rfl rfl) ?_
      refine J.caseD (fun c77 => ?_) (fun c77 => ?_)
      ·skip
       refine Dw.pure (i := 21) rfl (by kernel_rfl) (Want.none rfl) rfl (ltN rfl) (QP.pick_t rfl rfl rfl) ?_
       refine Dw.nil (by kernel_rfl) ?_
       refine hk20 _ _ ?_
       refine Run.cond_t rfl ?_
       refine Run.seq fun k21 hk21 => ?_
       refine Run.region ?_
       show Sq _ _ _ [0] _ _ _ _
       exact absurd ((hfd.yes c30).2.2.2.2.1 x ((hmem x).2 (List.mem_of_getElem? hi)) (by unfold mtD; rw [c62, c67]; simp)) (by show ¬ x.pair.dst.len.val ≤ r.1.pair.dst.len.val; omega)
      ·skip
       refine Dw.pure (i := 21) rfl (by kernel_rfl) (Want.none rfl) rfl (ltN rfl) (QP.pick_t rfl rfl rfl) ?_
       refine Dw.nil (by kernel_rfl) ?_
       refine hk20 _ _ ?_
       refine Run.cond_f rfl ?_
       refine Run.skip ?_
       refine hk18 _ _ ?_
       refine Run.region ?_
       show Sq _ _ _ [0, 1, 2] _ _ _ _
       refine Sq.quiet (i := 0) rfl (Want.none rfl) rfl (ltN rfl) (QP.move rfl rfl).read ?_
       refine Sq.quiet (i := 1) rfl (Want.none rfl) rfl (ltN rfl) (QP.add64 rfl rfl rfl (by first | omega | (simp <;> omega)) (by first | omega | (simp <;> omega))).read ?_
       refine Sq.quiet (i := 2) rfl (Want.none rfl) rfl (ltN rfl) (QP.assign rfl rfl).read ?_
       refine Sq.nil ?_
       exact J.envJ (J.keep (.cons (by repeat constructor) (.cons (by repeat constructor) (.cons (by repeat constructor) (.cons (by repeat constructor) Takes.nil)))) (hl15 (i + 1) (by omega) (by omega))) ⟨rfl, rfl, rfl, rfl, rfl, rfl, rfl, trivial⟩
     ·skip
      refine Dw.pure (i := 11) rfl (by kernel_rfl) (Want.none rfl) rfl (ltN rfl) (QP.pick_t rfl rfl rfl) ?_
      refine Dw.pure (i := 12) rfl (by kernel_rfl) (Want.none rfl) rfl (ltN rfl) (QP.move rfl rfl) ?_
      refine Dw.skip (i := 13) rfl (by kernel_rfl) (Want.no rfl rfl rfl rfl) rfl (ltN rfl) ?_
      refine Dw.skip (i := 14) rfl (by kernel_rfl) (Want.no rfl rfl rfl rfl) rfl (ltN rfl) ?_
      refine Dw.skip (i := 15) rfl (by kernel_rfl) (Want.no rfl rfl rfl rfl) rfl (ltN rfl) ?_
      refine Dw.skip (i := 16) rfl (by kernel_rfl) (Want.no rfl rfl rfl rfl) rfl (ltN rfl) ?_
      refine Dw.skip (i := 17) rfl (by kernel_rfl) (Want.no rfl rfl rfl rfl) rfl (ltN rfl) ?_
      refine Dw.skip (i := 18) rfl (by kernel_rfl) (Want.no rfl rfl rfl rfl) rfl (ltN rfl) ?_
      refine Dw.skip (i := 19) rfl (by kernel_rfl) (Want.no rfl rfl rfl rfl) rfl (ltN rfl) ?_
      refine Dw.skip (i := 20) rfl (by kernel_rfl) (Want.no rfl rfl rfl rfl) rfl (ltN rfl) ?_
      refine Dw.pure (i := 21) rfl (by kernel_rfl) (Want.none rfl) rfl (ltN rfl) (QP.pick_f rfl rfl rfl) ?_
      refine Dw.nil (by kernel_rfl) ?_
      refine hk20 _ _ ?_
      refine Run.cond_f rfl ?_
      refine Run.skip ?_
      refine hk18 _ _ ?_
      refine Run.region ?_
      show Sq _ _ _ [0, 1, 2] _ _ _ _
      refine Sq.quiet (i := 0) rfl (Want.none rfl) rfl (ltN rfl) (QP.move rfl rfl).read ?_
      refine Sq.quiet (i := 1) rfl (Want.none rfl) rfl (ltN rfl) (QP.add64 rfl rfl rfl (by first | omega | (simp <;> omega)) (by first | omega | (simp <;> omega))).read ?_
      refine Sq.quiet (i := 2) rfl (Want.none rfl) rfl (ltN rfl) (QP.assign rfl rfl).read ?_
      refine Sq.nil ?_
      exact J.envJ (J.keep (.cons (by repeat constructor) (.cons (by repeat constructor) (.cons (by repeat constructor) (.cons (by repeat constructor) Takes.nil)))) (hl15 (i + 1) (by omega) (by omega))) ⟨rfl, rfl, rfl, rfl, rfl, rfl, rfl, trivial⟩
    ·skip
     refine Dw.pure (i := 6) rfl (by kernel_rfl) (Want.none rfl) rfl (ltN rfl) (QP.move rfl rfl) ?_
     refine Dw.skip (i := 7) rfl (by kernel_rfl) (Want.no rfl rfl rfl rfl) rfl (ltN rfl) ?_
     refine Dw.skip (i := 8) rfl (by kernel_rfl) (Want.no rfl rfl rfl rfl) rfl (ltN rfl) ?_
     refine Dw.skip (i := 9) rfl (by kernel_rfl) (Want.no rfl rfl rfl rfl) rfl (ltN rfl) ?_
     refine Dw.eff (i := 10) (by kernel_rfl) (by kernel_rfl) ?_
     refine One.skipD (o := _) rfl (by kernel_rfl) (Want.no rfl rfl rfl rfl) rfl (ltN rfl) ?_
     refine Dw.pure (i := 11) rfl (by kernel_rfl) (Want.none rfl) rfl (ltN rfl) (QP.pick_f rfl rfl rfl) ?_
     refine Dw.pure (i := 12) rfl (by kernel_rfl) (Want.none rfl) rfl (ltN rfl) (QP.move rfl rfl) ?_
     refine Dw.skip (i := 13) rfl (by kernel_rfl) (Want.no rfl rfl rfl rfl) rfl (ltN rfl) ?_
     refine Dw.skip (i := 14) rfl (by kernel_rfl) (Want.no rfl rfl rfl rfl) rfl (ltN rfl) ?_
     refine Dw.skip (i := 15) rfl (by kernel_rfl) (Want.no rfl rfl rfl rfl) rfl (ltN rfl) ?_
     refine Dw.skip (i := 16) rfl (by kernel_rfl) (Want.no rfl rfl rfl rfl) rfl (ltN rfl) ?_
     refine Dw.skip (i := 17) rfl (by kernel_rfl) (Want.no rfl rfl rfl rfl) rfl (ltN rfl) ?_
     refine Dw.skip (i := 18) rfl (by kernel_rfl) (Want.no rfl rfl rfl rfl) rfl (ltN rfl) ?_
     refine Dw.skip (i := 19) rfl (by kernel_rfl) (Want.no rfl rfl rfl rfl) rfl (ltN rfl) ?_
     refine Dw.skip (i := 20) rfl (by kernel_rfl) (Want.no rfl rfl rfl rfl) rfl (ltN rfl) ?_
     refine Dw.pure (i := 21) rfl (by kernel_rfl) (Want.none rfl) rfl (ltN rfl) (QP.pick_f rfl rfl rfl) ?_
     refine Dw.nil (by kernel_rfl) ?_
     refine hk20 _ _ ?_
     refine Run.cond_f rfl ?_
     refine Run.skip ?_
     refine hk18 _ _ ?_
     refine Run.region ?_
     show Sq _ _ _ [0, 1, 2] _ _ _ _
     refine Sq.quiet (i := 0) rfl (Want.none rfl) rfl (ltN rfl) (QP.move rfl rfl).read ?_
     refine Sq.quiet (i := 1) rfl (Want.none rfl) rfl (ltN rfl) (QP.add64 rfl rfl rfl (by first | omega | (simp <;> omega)) (by first | omega | (simp <;> omega))).read ?_
     refine Sq.quiet (i := 2) rfl (Want.none rfl) rfl (ltN rfl) (QP.assign rfl rfl).read ?_
     refine Sq.nil ?_
     exact J.envJ (J.keep (.cons (by repeat constructor) (.cons (by repeat constructor) (.cons (by repeat constructor) (.cons (by repeat constructor) Takes.nil)))) (hl15 (i + 1) (by omega) (by omega))) ⟨rfl, rfl, rfl, rfl, rfl, rfl, rfl, trivial⟩
   ·skip
    refine Sq.quiet (i := 4) rfl (Want.none rfl) rfl (ltN rfl) (QP.move rfl rfl).read ?_
    refine Sq.skip (i := 5) rfl (Want.no rfl rfl rfl rfl) rfl (ltN rfl) ?_
    refine Sq.quiet (i := 6) rfl (Want.none rfl) rfl (ltN rfl) (QP.pick_f rfl rfl rfl).read ?_
    refine Sq.nil ?_
    refine hk17 _ _ ?_
    refine Run.cond_f rfl ?_
    refine Run.exit rfl ?_
    refine hk13 _ _ ?_
    refine Run.seq fun k22 hk22 => ?_
    refine Run.seq fun k23 hk23 => ?_
    refine Run.region ?_
    show Sq _ _ _ [0] _ _ _ _
    refine Sq.quiet (i := 0) rfl (Want.none rfl) rfl (ltN rfl) (QP.move rfl rfl).read ?_
    refine Sq.nil ?_
    refine hk23 _ _ ?_
    refine Run.cond_t rfl ?_
    refine Run.seq fun k24 hk24 => ?_
    refine Run.regionD (M := [0, 1, 0, 0, 15, 31, 63, 127, 63, 511, 1023, 2047, 4095, 8191, 8191, 24575, 65535, 131071, 262143, 524287, 1048575, 2097151, 4194303]) (q := 3079535) (r := 33102) (by kernel_rfl) ?_
    obtain ⟨y1, y2, y3, y4, _, _⟩ := hfd.yes c30
    have y5 := (hmem r.1).1 y2
    have y6 : checkPairB r.1.pair = true := hgood.ok (r.1.pair, r.1) (alook_some (hL.mem.1 y5))
    have y7 : matchesB r.1.pair s d = true := by
      unfold matchesB
      unfold mtD at y3
      rw [Bool.and_eq_true] at y3
      rw [y6, y3.2, y4]; rfl
    have y8 : familyB s = familyB d := y1
    refine Dw.pure (i := 0) rfl (by kernel_rfl) (Want.none rfl) rfl (ltN rfl) (QP.fieldAddr rfl rfl f38_0) ?_
    refine Dw.read (i := 1) rfl (by kernel_rfl) (Want.none rfl) rfl (ltN rfl) (QR.load rfl rfl g36 (Entry.sub_pair _)) ?_
    refine Dw.read (i := 2) rfl (by kernel_rfl) (Want.none rfl) rfl (ltN rfl) (QR.load rfl rfl g30 (Bs.sub _)) ?_
    refine Dw.read (i := 3) rfl (by kernel_rfl) (Want.none rfl) rfl (ltN rfl) (QR.load rfl rfl g30 (Bs.sub _)) ?_
    refine Dw.eff (i := 4) (by kernel_rfl) (by kernel_rfl) ?_
    refine One.mk (o := _) (l := []) rfl (by kernel_rfl) (Want.none rfl) rfl (ltN rfl) (EF.call rfl ce23 rfl Takes.nil (fun F' hle hr => matches_spec F' ((r.1).pair) (s) (d))) (by kernel_rfl) ?_
    rintro _ _ ⟨_, ⟨rfl, rfl⟩, rfl⟩
    refine ⟨fun _ h => (by cases h), ?_⟩
    refine J.app ?_
    refine J.boolT (y7) ?_
    refine Dw.pure (i := 5) rfl (by kernel_rfl) (Want.none rfl) rfl (ltN rfl) (QP.move rfl rfl) ?_
    refine Dw.read (i := 6) rfl (by kernel_rfl) (Want.yes rfl rfl rfl rfl) rfl (ltN rfl) (QR.load rfl rfl g30 (Bs.sub _)) ?_
    refine Dw.read (i := 8) rfl (by kernel_rfl) (Want.yes rfl rfl rfl rfl) rfl (ltN rfl) (QR.load rfl rfl g30 (Bs.sub _)) ?_
    refine Dw.eff (i := 7) (by kernel_rfl) (by kernel_rfl) ?_
    refine One.mk (o := _) (l := [8]) rfl (by kernel_rfl) (Want.yes rfl rfl rfl rfl) rfl (ltN rfl) (EF.call rfl ce21 rfl Takes.nil (fun F' hle hr => family_spec F' (s))) (by kernel_rfl) ?_
    rintro _ _ ⟨_, ⟨rfl, rfl⟩, rfl⟩
    refine ⟨?_, ?_⟩
    ·rw [List.forall_mem_cons]
     refine ⟨?_, fun _ h => (by cases h)⟩
     ·refine Look.app ?_
      exact Look.mk rfl rfl rfl (QR.load rfl rfl g30 (Bs.sub _))
    refine ?_
    refine J.app ?_
    refine Dw.eff (i := 9) (by kernel_rfl) (by kernel_rfl) ?_
    refine One.mk (o := _) (l := []) rfl (by kernel_rfl) (Want.yes rfl rfl rfl rfl) rfl (ltN rfl) (EF.call rfl ce21 rfl Takes.nil (fun F' hle hr => family_spec F' (d))) (by kernel_rfl) ?_
    rintro _ _ ⟨_, ⟨rfl, rfl⟩, rfl⟩
    refine ⟨fun _ h => (by cases h), ?_⟩
    refine J.app ?_
    refine Dw.pure (i := 10) rfl (by kernel_rfl) (Want.yes rfl rfl rfl rfl) rfl (ltN rfl) (QP.eql rfl rfl rfl) ?_
    refine J.decT (y8) ?_
    refine Dw.pure (i := 11) rfl (by kernel_rfl) (Want.none rfl) rfl (ltN rfl) (QP.pick_t rfl rfl rfl) ?_
    refine Dw.pure (i := 12) rfl (by kernel_rfl) (Want.none rfl) rfl (ltN rfl) (QP.move rfl rfl) ?_
    refine Dw.pure (i := 13) rfl (by kernel_rfl) (Want.yes rfl rfl rfl rfl) rfl (ltN rfl) (QP.move rfl rfl) ?_
    refine Dw.pure (i := 14) rfl (by kernel_rfl) (Want.yes rfl rfl rfl rfl) rfl (ltN rfl) (QP.fieldAddr rfl rfl f38_0) ?_
    refine Dw.read (i := 15) rfl (by kernel_rfl) (Want.yes rfl rfl rfl rfl) rfl (ltN rfl) (QR.load rfl rfl g36 (Entry.sub_pair _)) ?_
    refine Dw.eff (i := 16) (by kernel_rfl) (by kernel_rfl) ?_
    refine One.mk (o := _) (l := []) rfl (by kernel_rfl) (Want.yes rfl rfl rfl rfl) rfl (ltN rfl) (EF.call rfl ce15 rfl (.cons (by repeat constructor) Takes.nil) (fun F' hle hr => find_spec F' hLl hh32 _)) (by kernel_rfl) ?_
    rintro _ _ ⟨_, ⟨rfl, n96, rfl, hfind⟩, rfl⟩
    refine ⟨fun _ h => (by cases h), ?_⟩
    refine J.app ?_
    refine Dw.pure (i := 17) rfl (by kernel_rfl) (Want.yes rfl rfl rfl rfl) rfl (ltN rfl) (QP.geq rfl rfl rfl) ?_
    refine J.decT (by rcases hfind with ⟨_, h⟩ | ⟨i2, e2, h, _, _⟩; exact absurd rfl (h r.1 y5); omega) ?_
    refine Dw.pure (i := 18) rfl (by kernel_rfl) (Want.none rfl) rfl (ltN rfl) (QP.pick_t rfl rfl rfl) ?_
    refine Dw.pure (i := 19) rfl (by kernel_rfl) (Want.none rfl) rfl (ltN rfl) (QP.move rfl rfl) ?_
    refine Dw.eff (i := 20) (by kernel_rfl) (by kernel_rfl) ?_
    refine One.mk (o := _) (l := []) rfl (by kernel_rfl) (Want.yes rfl rfl rfl rfl) rfl (ltN rfl) (EF.call rfl ce8 rfl Takes.nil (fun F' hle hr => live_spec F')) (by kernel_rfl) ?_
    rintro _ _ ⟨_, ⟨rfl, rfl⟩, rfl⟩
    refine ⟨fun _ h => (by cases h), ?_⟩
    refine J.app ?_
    refine Dw.pure (i := 21) rfl (by kernel_rfl) (Want.none rfl) rfl (ltN rfl) (QP.pick_t rfl rfl rfl) ?_
    refine Dw.eff (i := 22) (by kernel_rfl) (by kernel_rfl) ?_
    refine One.mk (o := _) (l := []) rfl (by kernel_rfl) (Want.none rfl) rfl (ltN rfl) ((QP.assign rfl rfl).eff) (by kernel_rfl) ?_
    rintro _ _ ⟨rfl, rfl⟩
    refine ⟨fun _ h => (by cases h), ?_⟩
    refine Dw.nil (by kernel_rfl) ?_
    refine hk24 _ _ ?_
    refine Run.ret ?_
    exact J.ends (res_tmp rfl rfl) Takes.nil ⟨rfl, rfl⟩
  ·skip
   refine Sq.eff (i := 7) rfl (Want.none rfl) rfl (ltN rfl) (EF.allocA (l := Entry.enc Entry.zero) rfl zero38) ?_
   rintro _ _ ⟨b9, rfl, rfl⟩
   refine Sq.act (i := 8) rfl (Want.none rfl) rfl (EF.storeA rfl rfl rfl z38 (SetL.all (Entry.enc_len _) (Entry.enc_len _)) (Entry.enc_cell _)) ?_
   rintro _ _ rfl
   refine Sq.quiet (i := 9) rfl (Want.none rfl) rfl (ltN rfl) (QP.assign rfl rfl).read ?_
   refine Sq.nil ?_
   refine hk9 _ _ ?_
   refine Run.seq fun k25 hk25 => ?_
   refine Run.region ?_
   show Sq _ _ _ [0, 1, 2] _ _ _ _
   refine Sq.quiet (i := 0) rfl (Want.none rfl) rfl (ltN rfl) (QP.move rfl rfl).read ?_
   refine Sq.eff (i := 1) rfl (Want.none rfl) rfl (ltN rfl) (EF.call rfl ce11 rfl (.cons (by repeat constructor) Takes.nil) (fun F' hle hr => imported_spec F' ⟨hr _ _ (by repeat constructor)⟩ hMl hL)) ?_
   rintro v32 _ ⟨_, rfl, rfl⟩
   refine J.app ?_
   refine Sq.slCase (v := v32) (xs := L) (by repeat constructor) (fun a32 c32 hv32 hh32 => ?_)
   subst hv32
   refine Sq.quiet (i := 2) rfl (Want.none rfl) rfl (ltN rfl) (QP.assign rfl rfl).read ?_
   refine Sq.nil ?_
   refine hk25 _ _ ?_
   refine Run.seq fun k26 hk26 => ?_
   refine Run.seq fun k27 hk27 => ?_
   refine Run.region ?_
   show Sq _ _ _ [0, 1, 2, 3, 4, 5, 6, 7, 8, 9] _ _ _ _
   refine Sq.quiet (i := 0) rfl (Want.none rfl) rfl (ltN rfl) (QP.move rfl rfl).read ?_
   refine Sq.quiet (i := 1) rfl (Want.none rfl) rfl (ltN rfl) (QP.len rfl rfl rfl Try.underlying22).read ?_
   refine Sq.quiet (i := 2) rfl (Want.none rfl) rfl (ltN rfl) (QP.move rfl rfl).read ?_
   refine Sq.quiet (i := 3) rfl (Want.none rfl) rfl (ltN rfl) (QP.neq rfl rfl rfl).read ?_
   refine J.decF (by simp; omega) ?_
   refine Sq.quiet (i := 4) rfl (Want.none rfl) rfl (ltN rfl) (QP.move rfl rfl).read ?_
   refine Sq.quiet (i := 5) rfl (Want.yes rfl rfl rfl rfl) rfl (ltN rfl) (QP.move rfl rfl).read ?_
   refine Sq.eff (i := 6) rfl (Want.yes rfl rfl rfl rfl) rfl (ltN rfl) (EF.call rfl ce17 rfl (.cons (by repeat constructor) Takes.nil) (fun F' hle hr => list1_spec F' ⟨hr _ _ (by repeat constructor)⟩ (by decide) (L := []) InOrder.nil)) ?_
   rintro v39 _ ⟨_, rfl, rfl⟩
   refine J.app ?_
   refine Sq.slCase (v := v39) (xs := ([] : List Entry)) (by repeat constructor) (fun a39 c39 hv39 hh39 => ?_)
   subst hv39
   refine Sq.quiet (i := 7) rfl (Want.yes rfl rfl rfl rfl) rfl (ltN rfl) (QP.len rfl rfl rfl Try.underlying22).read ?_
   refine Sq.quiet (i := 8) rfl (Want.yes rfl rfl rfl rfl) rfl (ltN rfl) (QP.neq rfl rfl rfl).read ?_
   refine J.decF (by simp) ?_
   refine Sq.quiet (i := 9) rfl (Want.none rfl) rfl (ltN rfl) (QP.pick_f rfl rfl rfl).read ?_
   refine Sq.nil ?_
   refine hk27 _ _ ?_
   refine Run.cond_f rfl ?_
   refine Run.skip ?_
   refine hk26 _ _ ?_
   refine Run.seq fun k28 hk28 => ?_
   refine Run.seq fun k29 hk29 => ?_
   refine Run.region ?_
   show Sq _ _ _ [0] _ _ _ _
   refine Sq.quiet (i := 0) rfl (Want.none rfl) rfl (ltN rfl) (QP.assign rfl rfl).read ?_
   refine Sq.nil ?_
   refine hk29 _ _ ?_
   refine Run.block ?_
   refine Run.loop1 (fun (i : Nat) => i ≤ L.length) (fun i => .cons 4 (.pointer (some ⟨b4, 0, none⟩)) (.cons 5 (.pointer (some ⟨b5, 0, none⟩)) (.cons 7 (.pointer (some ⟨kb, 0, none⟩)) (.cons 9 (.pointer (some ⟨b9, 0, none⟩)) (.cons 10 (.bool false) (.cons 11 (.slice a32 L.length c32) (.cons 12 (.int .i64 i) (.nil)))))))) (fun i => [blk b4 (Bs.enc s) 30, blk b5 (Bs.enc d) 30, blk b9 (Entry.enc r.1) 38, slA 38 51 Entry.enc (.slice a32 L.length c32) L]) (fun i => L.length - i) (0) (Nat.zero_le _) ?_ ?_
   ·exact fun _ j => J.envJ (J.keep (.cons (by repeat constructor) (.cons (by repeat constructor) (.cons (by repeat constructor) (.cons (by repeat constructor) Takes.nil)))) j) ⟨rfl, rfl, rfl, rfl, rfl, rfl, rfl, trivial⟩
   rintro i hile kl30 hl30
   refine Run.seq fun k31 hk31 => ?_
   refine Run.seq fun k32 hk32 => ?_
   refine Run.region ?_
   show Sq _ _ _ [0, 1, 2, 3, 4, 5, 6] _ _ _ _
   refine Sq.quiet (i := 0) rfl (Want.none rfl) rfl (ltN rfl) (QP.move rfl rfl).read ?_
   refine Sq.quiet (i := 1) rfl (Want.none rfl) rfl (ltN rfl) (QP.move rfl rfl).read ?_
   refine Sq.quiet (i := 2) rfl (Want.none rfl) rfl (ltN rfl) (QP.len rfl rfl rfl Try.underlying22).read ?_
   refine Sq.quiet (i := 3) rfl (Want.none rfl) rfl (ltN rfl) (QP.lss rfl rfl rfl).read ?_
   refine J.caseD (fun c46 => ?_) (fun c46 => ?_)
   ·skip
    refine Sq.quiet (i := 4) rfl (Want.none rfl) rfl (ltN rfl) (QP.move rfl rfl).read ?_
    refine Sq.quiet (i := 5) rfl (Want.yes rfl rfl rfl rfl) rfl (ltN rfl) (QP.move rfl rfl).read ?_
    refine Sq.quiet (i := 6) rfl (Want.none rfl) rfl (ltN rfl) (QP.pick_t rfl rfl rfl).read ?_
    refine Sq.nil ?_
    refine hk32 _ _ ?_
    refine Run.cond_f rfl ?_
    refine Run.exit rfl ?_
    refine hk28 _ _ ?_
    refine Run.seq fun k33 hk33 => ?_
    refine Run.seq fun k34 hk34 => ?_
    refine Run.region ?_
    show Sq _ _ _ [0] _ _ _ _
    refine Sq.quiet (i := 0) rfl (Want.none rfl) rfl (ltN rfl) (QP.move rfl rfl).read ?_
    refine Sq.nil ?_
    refine hk34 _ _ ?_
    refine Run.cond_f rfl ?_
    refine Run.skip ?_
    refine hk33 _ _ ?_
    refine Run.seq fun k35 hk35 => ?_
    refine Run.region ?_
    show Sq _ _ _ [0, 1, 2, 3, 4, 5, 6] _ _ _ _
    refine Sq.quiet (i := 0) rfl (Want.none rfl) rfl (ltN rfl) (QR.load rfl rfl g38 (Entry.enc_sub _)) ?_
    refine Sq.quiet (i := 1) rfl (Want.none rfl) rfl (ltN rfl) (QP.build (l := Entry.enc Entry.zero) rfl st38 rfl (by exact trivial) rfl).read ?_
    refine Sq.quiet (i := 2) rfl (Want.none rfl) rfl (ltN rfl) (QP.eql_agg eq38 rfl rfl rfl).read ?_
    refine J.decT ((hfd.no c30)) ?_
    refine Sq.quiet (i := 3) rfl (Want.none rfl) rfl (ltN rfl) (QP.move rfl rfl).read ?_
    refine Sq.eff (i := 4) rfl (Want.yes rfl rfl rfl rfl) rfl (ltN rfl) (EF.call rfl ce8 rfl Takes.nil (fun F' hle hr => live_spec F')) ?_
    rintro _ _ ⟨_, ⟨rfl, rfl⟩, rfl⟩
    refine J.app ?_
    refine Sq.quiet (i := 5) rfl (Want.none rfl) rfl (ltN rfl) (QP.pick_t rfl rfl rfl).read ?_
    refine Sq.quiet (i := 6) rfl (Want.none rfl) rfl (ltN rfl) (QP.assign rfl rfl).read ?_
    refine Sq.nil ?_
    refine hk35 _ _ ?_
    refine Run.ret ?_
    exact J.ends (res_tmp rfl rfl) Takes.nil ⟨rfl, rfl⟩
   ·skip
    refine Sq.quiet (i := 4) rfl (Want.none rfl) rfl (ltN rfl) (QP.move rfl rfl).read ?_
    refine Sq.skip (i := 5) rfl (Want.no rfl rfl rfl rfl) rfl (ltN rfl) ?_
    refine Sq.quiet (i := 6) rfl (Want.none rfl) rfl (ltN rfl) (QP.pick_f rfl rfl rfl).read ?_
    refine Sq.nil ?_
    refine hk32 _ _ ?_
    refine Run.cond_f rfl ?_
    refine Run.exit rfl ?_
    refine hk28 _ _ ?_
    refine Run.seq fun k36 hk36 => ?_
    refine Run.seq fun k37 hk37 => ?_
    refine Run.region ?_
    show Sq _ _ _ [0] _ _ _ _
    refine Sq.quiet (i := 0) rfl (Want.none rfl) rfl (ltN rfl) (QP.move rfl rfl).read ?_
    refine Sq.nil ?_
    refine hk37 _ _ ?_
    refine Run.cond_f rfl ?_
    refine Run.skip ?_
    refine hk36 _ _ ?_
    refine Run.seq fun k38 hk38 => ?_
    refine Run.region ?_
    show Sq _ _ _ [0, 1, 2, 3, 4, 5, 6] _ _ _ _
    refine Sq.quiet (i := 0) rfl (Want.none rfl) rfl (ltN rfl) (QR.load rfl rfl g38 (Entry.enc_sub _)) ?_
    refine Sq.quiet (i := 1) rfl (Want.none rfl) rfl (ltN rfl) (QP.build (l := Entry.enc Entry.zero) rfl st38 rfl (by exact trivial) rfl).read ?_
    refine Sq.quiet (i := 2) rfl (Want.none rfl) rfl (ltN rfl) (QP.eql_agg eq38 rfl rfl rfl).read ?_
    refine J.decT ((hfd.no c30)) ?_
    refine Sq.quiet (i := 3) rfl (Want.none rfl) rfl (ltN rfl) (QP.move rfl rfl).read ?_
    refine Sq.eff (i := 4) rfl (Want.yes rfl rfl rfl rfl) rfl (ltN rfl) (EF.call rfl ce8 rfl Takes.nil (fun F' hle hr => live_spec F')) ?_
    rintro _ _ ⟨_, ⟨rfl, rfl⟩, rfl⟩
    refine J.app ?_
    refine Sq.quiet (i := 5) rfl (Want.none rfl) rfl (ltN rfl) (QP.pick_t rfl rfl rfl).read ?_
    refine Sq.quiet (i := 6) rfl (Want.none rfl) rfl (ltN rfl) (QP.assign rfl rfl).read ?_
    refine Sq.nil ?_
    refine hk38 _ _ ?_
    refine Run.ret ?_
    exact J.ends (res_tmp rfl rfl) Takes.nil ⟨rfl, rfl⟩
end Slb
