/- K3: a part of the proof that a law of this package holds for every input; no condition. -/
import Derived.Test.YtgcjmamfbcmccaaK2
namespace Slb
open Go Go.Proofs
set_option maxRecDepth 20000
structure InK (F : Fr) (b r1 r2 : Nat) (n : Int) : Prop where
  tb : F.h b = some (.cells (KernelKernel.enc ⟨some r1, some r2, n⟩).toArray 64 (0, 0))
theorem InK.mono {F F' : Fr} {b r1 r2 : Nat} {n : Int} (h : InK F b r1 r2 n) (hle : PH.le F.h F'.h) : InK F' b r1 r2 n := ⟨hle _ _ h.tb⟩
def valsE (M : TabE) : List Entry := M.map (·.2)
def mtD (d : Bs 16) (e : Entry) : Bool := decide (pfamilyB e.pair.dst = familyB d) && containsB e.pair.dst d
def dlen (e : Entry) : Int := e.pair.dst.len.val
def slen (e : Entry) : Int := e.pair.src.len.val
/-- Those with the longest destination so far. -/
def fstep (d : Bs 16) (H : List Entry) (e : Entry) : List Entry :=
  if mtD d e then (match H with | [] => [e] | h :: _ => if dlen e > dlen h then [e] else if dlen e = dlen h then H ++ [e] else H) else H
def sstep (s : Bs 16) (b : Entry × Bool) (e : Entry) : Entry × Bool := if containsB e.pair.src s && (!b.2 || decide (slen e > slen b.1)) then (e, true) else b
theorem fstep_snoc (d : Bs 16) (D E : List Entry) (e : Entry) : (D ++ (E ++ [e])).foldl (fstep d) [] = fstep d ((D ++ E).foldl (fstep d) []) e := by
  rw [← List.append_assoc, List.foldl_append]; rfl
def lookF (D : List Entry) (s d : Bs 16) : Entry × Bool := if familyB s = familyB d then (D.foldl (fstep d) []).foldl (sstep s) (Entry.zero, false) else (Entry.zero, false)
def upto2 (M1 M2 : TabE) (i : Nat) : List Entry := if i = 0 then [] else if i = 1 then valsE M1 else valsE M1 ++ valsE M2
theorem upto2_len {M1 M2 : TabE} (h1 : M1.length ≤ 100000) (h2 : M2.length ≤ 100000) (i : Nat) : (upto2 M1 M2 i).length ≤ 200000 := by
  unfold upto2
  split
  · simp
  · split
    · simp [valsE]; omega
    · simp [valsE]; omega
theorem fold_len (d : Bs 16) (D : List Entry) : ∀ H : List Entry, (D.foldl (fstep d) H).length ≤ H.length + D.length := by
  induction D with
  | nil => intro H; simp
  | cons e D ih =>
    intro H
    have h1 : (fstep d H e).length ≤ H.length + 1 := by
      unfold fstep
      split
      · cases H with
        | nil => simp
        | cons h H => simp only; split; simp; split; simp; simp
      · omega
    have := ih (fstep d H e)
    simp only [List.foldl_cons, List.length_cons]
    omega

theorem lookup_spec (F : Fr) {b r1 r2 : Nat} {n : Int} (hf : InK F b r1 r2 n) {M1 M2 : TabE} (hm1 : M1.length ≤ 100000) (hm2 : M2.length ≤ 100000) (s d : Bs 16) : Spec Try.prog 19 #[.pointer (some ⟨b, 0, none⟩), .agg (Bs.enc s).toArray, .agg (Bs.enc d).toArray] [mapE r1 M1, mapE r2 M2] F (fun v S => ∃ D : List Entry, D.Perm (valsE M1 ++ valsE M2) ∧ v = .tuple #[valE (lookF D s d).1, .bool (lookF D s d).2] ∧ S = [mapE r1 M1, mapE r2 M2]) := by
 refine Spec.intro (N := 123) (args := [.pointer (some ⟨b, 0, none⟩), .agg (Bs.enc s).toArray, .agg (Bs.enc d).toArray]) Try.func19 rfl rfl (by simp) ?_
 refine Run.seq fun k1 hk1 => ?_
 refine Run.region ?_
 show Sq _ _ _ [0, 1, 2, 3] _ _ _ _
 refine Sq.eff (i := 0) rfl (Want.none rfl) rfl (ltN rfl) (EF.boxA rfl rfl) ?_
 rintro _ _ ⟨b4, rfl, rfl⟩
 refine Sq.eff (i := 1) rfl (Want.none rfl) rfl (ltN rfl) (EF.boxA rfl rfl) ?_
 rintro _ _ ⟨b5, rfl, rfl⟩
 refine Sq.eff (i := 2) rfl (Want.none rfl) rfl (ltN rfl) (EF.allocA (l := Entry.enc Entry.zero) rfl zero38) ?_
 rintro _ _ ⟨b6, rfl, rfl⟩
 refine Sq.quiet (i := 3) rfl (Want.none rfl) rfl (ltN rfl) (QP.assign rfl rfl).read ?_
 refine Sq.nil ?_
 refine hk1 _ _ ?_
 refine Run.seq fun k2 hk2 => ?_
 refine Run.seq fun k3 hk3 => ?_
 refine Run.regionD (M := [0, 1, 3, 7, 15, 7, 63, 127, 255]) (q := 431) (r := 40) (by kernel_rfl) ?_
 refine Dw.pure (i := 0) rfl (by kernel_rfl) (Want.none rfl) rfl (ltN rfl) (QP.move rfl rfl) ?_
 refine Dw.pure (i := 1) rfl (by kernel_rfl) (Want.none rfl) rfl (ltN rfl) (QP.ptr_eq_nil rfl rfl rfl Try.underlying24) ?_
 refine Dw.pure (i := 2) rfl (by kernel_rfl) (Want.none rfl) rfl (ltN rfl) (QP.move rfl rfl) ?_
 refine Dw.read (i := 3) rfl (by kernel_rfl) (Want.yes rfl rfl rfl rfl) rfl (ltN rfl) (QR.load rfl rfl g30 (Bs.sub _)) ?_
 refine Dw.read (i := 5) rfl (by kernel_rfl) (Want.yes rfl rfl rfl rfl) rfl (ltN rfl) (QR.load rfl rfl g30 (Bs.sub _)) ?_
 refine Dw.eff (i := 4) (by kernel_rfl) (by kernel_rfl) ?_
 refine One.mk (o := _) (l := [5]) rfl (by kernel_rfl) (Want.yes rfl rfl rfl rfl) rfl (ltN rfl) (EF.call rfl ce21 rfl Takes.nil (fun F' hle hr => family_spec F' (s))) (by kernel_rfl) ?_
 rintro _ _ ⟨_, ⟨rfl, rfl⟩, rfl⟩
 refine ⟨?_, ?_⟩
 ·rw [List.forall_mem_cons]
  refine ⟨?_, fun _ h => (by cases h)⟩
  ·refine Look.app ?_
   exact Look.mk rfl rfl rfl (QR.load rfl rfl g30 (Bs.sub _))
 refine ?_
 refine J.app ?_
 refine Dw.eff (i := 6) (by kernel_rfl) (by kernel_rfl) ?_
 refine One.mk (o := _) (l := []) rfl (by kernel_rfl) (Want.yes rfl rfl rfl rfl) rfl (ltN rfl) (EF.call rfl ce21 rfl Takes.nil (fun F' hle hr => family_spec F' (d))) (by kernel_rfl) ?_
 rintro _ _ ⟨_, ⟨rfl, rfl⟩, rfl⟩
 refine ⟨fun _ h => (by cases h), ?_⟩
 refine J.app ?_
 refine Dw.pure (i := 7) rfl (by kernel_rfl) (Want.yes rfl rfl rfl rfl) rfl (ltN rfl) (QP.neq rfl rfl rfl) ?_
 refine J.caseD (fun c23 => ?_) (fun c23 => ?_)
 ·skip
  refine Dw.pure (i := 8) rfl (by kernel_rfl) (Want.none rfl) rfl (ltN rfl) (QP.pick_f rfl rfl rfl) ?_
  refine Dw.nil (by kernel_rfl) ?_
  refine hk3 _ _ ?_
  refine Run.cond_t rfl ?_
  refine Run.seq fun k4 hk4 => ?_
  refine Run.region ?_
  show Sq _ _ _ [0, 1, 2] _ _ _ _
  refine Sq.quiet (i := 0) rfl (Want.none rfl) rfl (ltN rfl) (QP.build (l := Entry.enc Entry.zero) rfl st38 rfl (by exact trivial) rfl).read ?_
  refine Sq.act (i := 1) rfl (Want.none rfl) rfl (EF.storeA rfl rfl rfl z38 (SetL.all (Entry.enc_len _) (Entry.enc_len _)) (Entry.enc_cell _)) ?_
  rintro _ _ rfl
  refine Sq.quiet (i := 2) rfl (Want.none rfl) rfl (ltN rfl) (QP.assign rfl rfl).read ?_
  refine Sq.nil ?_
  refine hk4 _ _ ?_
  refine Run.ret ?_
  exact J.ends (res_cell2 rfl rfl g38 (Entry.enc_sub _) rfl) (.cons (by repeat constructor) (.cons (by repeat constructor) Takes.nil)) ⟨_, List.Perm.refl _, by unfold lookF; rw [if_neg c23], rfl⟩
 ·skip
  refine Dw.pure (i := 8) rfl (by kernel_rfl) (Want.none rfl) rfl (ltN rfl) (QP.pick_f rfl rfl rfl) ?_
  refine Dw.nil (by kernel_rfl) ?_
  refine hk3 _ _ ?_
  refine Run.cond_f rfl ?_
  refine Run.skip ?_
  refine hk2 _ _ ?_
  refine Run.seq fun k5 hk5 => ?_
  refine Run.region ?_
  show Sq _ _ _ [0] _ _ _ _
  refine Sq.quiet (i := 0) rfl (Want.none rfl) rfl (ltN rfl) (QP.assign rfl rfl).read ?_
  refine Sq.nil ?_
  refine hk5 _ _ ?_
  refine Run.seq fun k6 hk6 => ?_
  refine Run.seq fun k7 hk7 => ?_
  refine Run.regionD (M := [0, 1, 3, 7, 0, 16, 48, 112, 255, 511, 0]) (q := 1791) (r := 136) (by kernel_rfl) ?_
  refine J.addSl 38 51 Entry.enc ?_
  refine Dw.pure (i := 0) rfl (by kernel_rfl) (Want.none rfl) rfl (ltN rfl) (QP.move rfl rfl) ?_
  refine Dw.pure (i := 1) rfl (by kernel_rfl) (Want.none rfl) rfl (ltN rfl) (QP.nilCheck rfl rfl) ?_
  refine Dw.pure (i := 2) rfl (by kernel_rfl) (Want.none rfl) rfl (ltN rfl) (QP.fieldAddr rfl rfl f64_0) ?_
  refine Dw.read (i := 3) rfl (by kernel_rfl) (Want.none rfl) rfl (ltN rfl) (QR.load1F rfl rfl g62 hf.tb (KernelKernel.sub_own _)) ?_
  refine Dw.pure (i := 4) rfl (by kernel_rfl) (Want.none rfl) rfl (ltN rfl) (QP.move rfl rfl) ?_
  refine Dw.pure (i := 5) rfl (by kernel_rfl) (Want.none rfl) rfl (ltN rfl) (QP.nilCheck rfl rfl) ?_
  refine Dw.pure (i := 6) rfl (by kernel_rfl) (Want.none rfl) rfl (ltN rfl) (QP.fieldAddr rfl rfl f64_1) ?_
  refine Dw.read (i := 7) rfl (by kernel_rfl) (Want.none rfl) rfl (ltN rfl) (QR.load1F rfl rfl g62 hf.tb (KernelKernel.sub_others _)) ?_
  refine Dw.pure (i := 10) rfl (by kernel_rfl) (Want.none rfl) rfl (ltN rfl) (QP.move rfl rfl) ?_
  refine Dw.eff (i := 8) (by kernel_rfl) (by kernel_rfl) ?_
  refine One.mk (o := _) (l := []) rfl (by kernel_rfl) (Want.none rfl) rfl (ltN rfl) (EF.buildSliceS rfl Try.underlying67 z62 zero62 rfl (by decide) rfl rfl rfl rfl) (by kernel_rfl) ?_
  rintro _ _ ⟨b34, rfl, rfl⟩
  refine ⟨fun _ h => (by cases h), ?_⟩
  refine Dw.pure (i := 9) rfl (by kernel_rfl) (Want.none rfl) rfl (ltN rfl) (QP.len rfl rfl rfl Try.underlying67) ?_
  refine Dw.nil (by kernel_rfl) ?_
  refine hk7 _ _ ?_
  refine Run.block ?_
  refine Run.loop3 (fun (i : Nat) (D : List Entry) (vh : Value) => i ≤ 2 ∧ D.Perm (upto2 M1 M2 i)) (fun i D vh => .cons 4 (.pointer (some ⟨b4, 0, none⟩)) (.cons 5 (.pointer (some ⟨b5, 0, none⟩)) (.cons 6 (.pointer (some ⟨b6, 0, none⟩)) (.cons 7 (.bool false) (.cons 8 (vh) (.cons 34 (.slice (some ⟨b34, 0, none⟩) 2 2) (.cons 35 (.int .i64 2) (.cons 36 (.int .i64 i) (.nil))))))))) (fun i D vh => [mapE r1 M1, mapE r2 M2, blk b4 (Bs.enc s) 30, blk b5 (Bs.enc d) 30, blk b6 (Entry.enc Entry.zero) 38, blk b34 [.map (some r1), .map (some r2)] 62, slA 38 51 Entry.enc vh (D.foldl (fstep d) [])]) (fun i D vh => 2 - i) (0) ([]) (.slice none 0 0) (⟨Nat.zero_le _, List.Perm.refl _⟩) ?_ ?_
  ·exact fun _ j => J.envJ (J.keep (.cons (by repeat constructor) (.cons (by repeat constructor) (.cons (by repeat constructor) (.cons (by repeat constructor) (.cons (by repeat constructor) (.cons (by repeat constructor) (.cons (by repeat constructor) Takes.nil))))))) j) ⟨rfl, rfl, rfl, rfl, rfl, rfl, rfl, rfl, trivial⟩
  rintro i D vh ⟨hi2, hD⟩ kl8 hl8
  refine Run.seq fun k9 hk9 => ?_
  refine Run.region ?_
  show Sq _ _ _ [0] _ _ _ _
  refine Sq.quiet (i := 0) rfl (Want.none rfl) rfl (ltN rfl) (QP.lss rfl rfl rfl).read ?_
  refine J.caseD (fun c37 => ?_) (fun c37 => ?_)
  ·skip
   refine Sq.nil ?_
   refine hk9 _ _ ?_
   refine Run.seq fun k10 hk10 => ?_
   refine Run.cond_t rfl ?_
   refine Run.skip ?_
   refine hk10 _ _ ?_
   refine Run.seq fun k11 hk11 => ?_
   refine Run.block ?_
   refine Run.seq fun k12 hk12 => ?_
   refine Run.region ?_
   show Sq _ _ _ [0, 1, 2] _ _ _ _
   refine Sq.quiet (i := 0) rfl (Want.none rfl) rfl (ltN rfl) (QP.indexAddr rfl rfl rfl Try.underlying67 z62 (by omega) (by omega)).read ?_
   rcases (show i = 0 ∨ i = 1 by omega) with rfl | rfl
   ·skip
    refine Sq.quiet (i := 1) rfl (Want.none rfl) rfl (ltN rfl) (QR.load1 rfl rfl g62 (⟨[], [_], rfl, rfl, rfl⟩)) ?_
    refine Sq.quiet (i := 2) rfl (Want.none rfl) rfl (ltN rfl) (QP.assign rfl rfl).read ?_
    refine Sq.nil ?_
    refine hk12 _ _ ?_
    refine Run.seq fun k13 hk13 => ?_
    refine Run.region ?_
    show Sq _ _ _ [0, 1] _ _ _ _
    refine Sq.slEq (v := vh) (by repeat constructor) (show D.foldl (fstep d) [] = (D ++ []).foldl (fstep d) [] by rw [List.append_nil]) ?_
    refine Sq.quiet (i := 0) rfl (Want.none rfl) rfl (ltN rfl) (QP.move rfl rfl).read ?_
    refine Sq.eff (i := 1) rfl (Want.none rfl) rfl (ltN rfl) (EF.range rfl rfl Try.underlying62 (by repeat constructor)) ?_
    rintro _ _ ⟨it41, rfl, rfl⟩
    refine Sq.nil ?_
    refine hk13 _ _ ?_
    refine Run.block ?_
    refine Run.loop4 (fun (E : List Entry) (todo : TabE) (cur : Option (Pair × Entry)) (vi : Value) => (E ++ todo.map (·.2)).Perm (valsE M1)) (fun E todo cur vi => .cons 4 (.pointer (some ⟨b4, 0, none⟩)) (.cons 5 (.pointer (some ⟨b5, 0, none⟩)) (.cons 6 (.pointer (some ⟨b6, 0, none⟩)) (.cons 7 (.bool false) (.cons 8 (vi) (.cons 34 (.slice (some ⟨b34, 0, none⟩) 2 2) (.cons 35 (.int .i64 2) (.cons 36 (.int .i64 ((0 : Nat) : Int)) (.cons 41 (.pointer (some ⟨it41, 0, none⟩)) (.nil)))))))))) (fun E todo cur vi => [rangeT keyE valE r1 it41 M1 todo cur, mapE r2 M2, blk b4 (Bs.enc s) 30, blk b5 (Bs.enc d) 30, blk b6 (Entry.enc Entry.zero) 38, blk b34 [.map (some r1), .map (some r2)] 62, slA 38 51 Entry.enc vi ((D ++ E).foldl (fstep d) [])]) (fun E todo cur vi => todo.length) ([]) (M1) (none) (vh) (List.Perm.refl _) ?_ ?_
    ·exact fun _ j => J.envJ (J.keep (.cons (by repeat constructor) (.cons (by repeat constructor) (.cons (by repeat constructor) (.cons (by repeat constructor) (.cons (by repeat constructor) (.cons (by repeat constructor) (.cons (by repeat constructor) Takes.nil))))))) j) ⟨rfl, rfl, rfl, rfl, rfl, rfl, rfl, rfl, rfl, trivial⟩
    rintro E todo cur vi hperm kl14 hl14
    refine Run.seq fun k15 hk15 => ?_
    refine Run.region ?_
    show Sq _ _ _ [0, 1] _ _ _ _
    refine Sq.eff (i := 0) rfl (Want.none rfl) rfl (ltN rfl) (EF.next rfl rfl (by repeat constructor)) ?_
    rintro _ _ (⟨hn42, rfl, rfl⟩ | ⟨ix, px, hn42, rfl, rfl⟩)
    ·skip
     subst hn42
     have hEp : E.Perm (valsE M1) := by simpa using hperm
     refine Sq.quiet (i := 1) rfl (Want.none rfl) rfl (ltN rfl) (QP.extract rfl rfl rfl).read ?_
     refine Sq.nil ?_
     refine hk15 _ _ ?_
     refine Run.seq fun k16 hk16 => ?_
     refine Run.cond_f rfl ?_
     refine Run.exit rfl ?_
     refine hk11 _ _ ?_
     refine Run.region ?_
     show Sq _ _ _ [0, 1] _ _ _ _
     refine Sq.quiet (i := 0) rfl (Want.none rfl) rfl (ltN rfl) (QP.add64 rfl rfl rfl (by first | omega | (simp <;> omega)) (by first | omega | (simp <;> omega))).read ?_
     refine Sq.quiet (i := 1) rfl (Want.none rfl) rfl (ltN rfl) (QP.move rfl rfl).read ?_
     refine Sq.nil ?_
     refine J.rangeEnd (by repeat constructor) ?_
     exact J.envJ (J.keep (.cons (by repeat constructor) (.cons (by repeat constructor) (.cons (by repeat constructor) (.cons (by repeat constructor) (.cons (by repeat constructor) (.cons (by repeat constructor) (.cons (by repeat constructor) Takes.nil))))))) (hl8 (1) (D ++ E) (vi) (⟨by omega, by have h0 := hD.eq_nil; subst h0; exact hEp⟩) (by omega))) ⟨rfl, rfl, rfl, rfl, rfl, rfl, rfl, rfl, trivial⟩
    ·skip
     have hEl : E.length ≤ 100000 := by have h1 := hperm.length_eq; simp [valsE] at h1; omega
     have hDl : D.length ≤ 200000 := Nat.le_trans (Nat.le_of_eq hD.length_eq) (upto2_len hm1 hm2 _)
     obtain ⟨H, hH⟩ : ∃ H, ((D ++ E).foldl (fstep d) []) = H := ⟨_, rfl⟩
     have hHl : H.length ≤ 300000 := by rw [← hH]; have := fold_len d (D ++ E) []; simp only [List.length_append, List.length_nil] at this; omega
     rw [hH]
     refine J.slCase (v := vi) (xs := H) (by repeat constructor) (fun ah ch hvh hhh => ?_)
     subst hvh
     refine Sq.quiet (i := 1) rfl (Want.none rfl) rfl (ltN rfl) (QP.extract rfl rfl rfl).read ?_
     refine Sq.nil ?_
     refine hk15 _ _ ?_
     refine Run.seq fun k17 hk17 => ?_
     refine Run.cond_t rfl ?_
     refine Run.skip ?_
     refine hk17 _ _ ?_
     refine Run.block ?_
     refine Run.seq fun k18 hk18 => ?_
     refine Run.region ?_
     show Sq _ _ _ [0, 1, 2, 3] _ _ _ _
     refine Sq.quiet (i := 0) rfl (Want.none rfl) rfl (ltN rfl) (QR.entry rfl rfl) ?_
     refine Sq.quiet (i := 1) rfl (Want.none rfl) rfl (ltN rfl) (QP.extract rfl rfl rfl).read ?_
     refine Sq.eff (i := 2) rfl (Want.none rfl) rfl (ltN rfl) (EF.allocA (l := Entry.enc Entry.zero) rfl zero38) ?_
     rintro _ _ ⟨b12, rfl, rfl⟩
     refine Sq.act (i := 3) rfl (Want.none rfl) rfl (EF.storeA rfl rfl rfl z38 (SetL.all (Entry.enc_len _) (Entry.enc_len _)) (Entry.enc_cell _)) ?_
     rintro _ _ rfl
     refine Sq.nil ?_
     refine hk18 _ _ ?_
     refine Run.seq fun k19 hk19 => ?_
     refine Run.region ?_
     show Sq _ _ _ [0, 1, 2, 3, 4] _ _ _ _
     refine Sq.quiet (i := 0) rfl (Want.none rfl) rfl (ltN rfl) (QP.fieldAddr rfl rfl f38_0).read ?_
     refine Sq.quiet (i := 1) rfl (Want.none rfl) rfl (ltN rfl) (QP.fieldAddr rfl rfl f36_0).read ?_
     refine Sq.quiet (i := 2) rfl (Want.none rfl) rfl (ltN rfl) (QR.load rfl rfl g33 ((Entry.sub_pair _).trans (Pair.sub_dst _))) ?_
     refine Sq.eff (i := 3) rfl (Want.none rfl) rfl (ltN rfl) (EF.allocA (l := Prefix.enc Prefix.zero) rfl zero33) ?_
     rintro _ _ ⟨b13, rfl, rfl⟩
     refine Sq.act (i := 4) rfl (Want.none rfl) rfl (EF.storeA rfl rfl rfl z33 (SetL.all (Prefix.enc_len _) (Prefix.enc_len _)) (Prefix.enc_cell _)) ?_
     rintro _ _ rfl
     refine Sq.nil ?_
     refine hk19 _ _ ?_
     refine Run.seq fun k20 hk20 => ?_
     refine Run.seq fun k21 hk21 => ?_
     refine Run.regionD (M := [0, 1, 0, 7, 15, 31, 63, 63, 255, 511, 1023]) (q := 1781) (r := 197) (by kernel_rfl) ?_
     refine Dw.read (i := 0) rfl (by kernel_rfl) (Want.none rfl) rfl (ltN rfl) (QR.load rfl rfl g33 (Prefix.enc_sub _)) ?_
     refine Dw.read (i := 2) rfl (by kernel_rfl) (Want.none rfl) rfl (ltN rfl) (QR.load rfl rfl g30 (Bs.sub _)) ?_
     refine Dw.eff (i := 1) (by kernel_rfl) (by kernel_rfl) ?_
     refine One.mk (o := _) (l := [2]) rfl (by kernel_rfl) (Want.none rfl) rfl (ltN rfl) (EF.call rfl ce20 rfl Takes.nil (fun F' hle hr => pfamily_spec F' (((px.2).pair).dst))) (by kernel_rfl) ?_
     rintro _ _ ⟨_, ⟨rfl, rfl⟩, rfl⟩
     refine ⟨?_, ?_⟩
     ·rw [List.forall_mem_cons]
      refine ⟨?_, fun _ h => (by cases h)⟩
      ·refine Look.app ?_
       exact Look.mk rfl rfl rfl (QR.load rfl rfl g30 (Bs.sub _))
     refine ?_
     refine J.app ?_
     refine Dw.eff (i := 3) (by kernel_rfl) (by kernel_rfl) ?_
     refine One.mk (o := _) (l := []) rfl (by kernel_rfl) (Want.none rfl) rfl (ltN rfl) (EF.call rfl ce21 rfl Takes.nil (fun F' hle hr => family_spec F' (d))) (by kernel_rfl) ?_
     rintro _ _ ⟨_, ⟨rfl, rfl⟩, rfl⟩
     refine ⟨fun _ h => (by cases h), ?_⟩
     refine J.app ?_
     refine Dw.pure (i := 4) rfl (by kernel_rfl) (Want.none rfl) rfl (ltN rfl) (QP.neq rfl rfl rfl) ?_
     refine J.caseD (fun c53 => ?_) (fun c53 => ?_)
     ·skip
      refine Dw.pure (i := 5) rfl (by kernel_rfl) (Want.none rfl) rfl (ltN rfl) (QP.move rfl rfl) ?_
      refine Dw.skip (i := 6) rfl (by kernel_rfl) (Want.no rfl rfl rfl rfl) rfl (ltN rfl) ?_
      refine Dw.skip (i := 7) rfl (by kernel_rfl) (Want.no rfl rfl rfl rfl) rfl (ltN rfl) ?_
      refine Dw.eff (i := 8) (by kernel_rfl) (by kernel_rfl) ?_
      refine One.skipD (o := _) rfl (by kernel_rfl) (Want.no rfl rfl rfl rfl) rfl (ltN rfl) ?_
      refine Dw.skip (i := 9) rfl (by kernel_rfl) (Want.no rfl rfl rfl rfl) rfl (ltN rfl) ?_
      refine Dw.pure (i := 10) rfl (by kernel_rfl) (Want.none rfl) rfl (ltN rfl) (QP.pick_t rfl rfl rfl) ?_
      refine Dw.nil (by kernel_rfl) ?_
      refine hk21 _ _ ?_
      refine Run.cond_t rfl ?_
      refine Run.exit rfl ?_
      have hfs : fstep d H px.2 = H := by unfold fstep; rw [if_neg (by simp only [mtD, Bool.and_eq_true, decide_eq_true_eq]; exact fun h => c53 h.1)]
      have hall := fstep_snoc d D E px.2
      rw [hH, hfs] at hall
      refine J.slEq (v := .slice ah H.length ch) (by repeat constructor) hall.symm ?_
      exact J.envJ (J.keep (.cons (by repeat constructor) (.cons (by repeat constructor) (.cons (by repeat constructor) (.cons (by repeat constructor) (.cons (by repeat constructor) (.cons (by repeat constructor) (.cons (by repeat constructor) Takes.nil))))))) (hl14 (E ++ [px.2]) (todo.eraseIdx ix) (some px) (.slice ah H.length ch) (by rw [List.append_assoc]; exact (List.Perm.append_left _ ((erase_perm hn42).map (·.2))).trans hperm) (by have h1 := (erase_perm hn42).length_eq; simp at h1; omega))) ⟨rfl, rfl, rfl, rfl, rfl, rfl, rfl, rfl, rfl, trivial⟩
     ·skip
      refine Dw.pure (i := 5) rfl (by kernel_rfl) (Want.none rfl) rfl (ltN rfl) (QP.move rfl rfl) ?_
      refine Dw.read (i := 6) rfl (by kernel_rfl) (Want.yes rfl rfl rfl rfl) rfl (ltN rfl) (QR.load rfl rfl g33 (Prefix.enc_sub _)) ?_
      refine Dw.read (i := 7) rfl (by kernel_rfl) (Want.yes rfl rfl rfl rfl) rfl (ltN rfl) (QR.load rfl rfl g30 (Bs.sub _)) ?_
      refine Dw.eff (i := 8) (by kernel_rfl) (by kernel_rfl) ?_
      refine One.mk (o := _) (l := []) rfl (by kernel_rfl) (Want.yes rfl rfl rfl rfl) rfl (ltN rfl) (EF.call rfl ce22 rfl Takes.nil (fun F' hle hr => contains_spec F' (((px.2).pair).dst) (d))) (by kernel_rfl) ?_
      rintro _ _ ⟨_, ⟨rfl, rfl⟩, rfl⟩
      refine ⟨fun _ h => (by cases h), ?_⟩
      refine J.app ?_
      refine J.caseB (fun c57 => ?_) (fun c57 => ?_)
      ·skip
       refine Dw.pure (i := 9) rfl (by kernel_rfl) (Want.yes rfl rfl rfl rfl) rfl (ltN rfl) (QP.not rfl rfl) ?_
       refine Dw.pure (i := 10) rfl (by kernel_rfl) (Want.none rfl) rfl (ltN rfl) (QP.pick_f rfl rfl rfl) ?_
       refine Dw.nil (by kernel_rfl) ?_
       refine hk21 _ _ ?_
       refine Run.cond_f rfl ?_
       refine Run.skip ?_
       refine hk20 _ _ ?_
       refine Run.seq fun k22 hk22 => ?_
       refine Run.seq fun k23 hk23 => ?_
       refine Run.regionD (M := [0, 1, 3, 7, 15, 31, 15, 79, 207, 463, 975, 1999, 4095, 8191]) (q := 16383) (r := 2080) (by kernel_rfl) ?_
       refine Dw.pure (i := 0) rfl (by kernel_rfl) (Want.none rfl) rfl (ltN rfl) (QP.move rfl rfl) ?_
       refine Dw.pure (i := 1) rfl (by kernel_rfl) (Want.none rfl) rfl (ltN rfl) (QP.len rfl rfl rfl Try.underlying22) ?_
       refine Dw.pure (i := 2) rfl (by kernel_rfl) (Want.none rfl) rfl (ltN rfl) (QP.gtr rfl rfl rfl) ?_
       refine J.caseD (fun c62 => ?_) (fun c62 => ?_)
       ·skip
        refine Dw.pure (i := 3) rfl (by kernel_rfl) (Want.none rfl) rfl (ltN rfl) (QP.move rfl rfl) ?_
        obtain ⟨b0, o0, rfl⟩ := hhh.get (by omega)
        obtain ⟨hd, H2, hHc⟩ : ∃ hd H2, H = hd :: H2 := by
          cases H with
          | nil => simp at c62
          | cons x y => exact ⟨x, y, rfl⟩
        have h0 : H[Int.toNat 0]? = some hd := by rw [hHc]; rfl
        refine Dw.pure (i := 4) rfl (by kernel_rfl) (Want.yes rfl rfl rfl rfl) rfl (ltN rfl) (QP.fieldAddr rfl rfl f33_1) ?_
        refine Dw.read (i := 5) rfl (by kernel_rfl) (Want.yes rfl rfl rfl rfl) rfl (ltN rfl) (QR.load1 rfl rfl g3 (Prefix.sub_len _)) ?_
        refine Dw.pure (i := 6) rfl (by kernel_rfl) (Want.yes rfl rfl rfl rfl) rfl (ltN rfl) (QP.move rfl rfl) ?_
        refine Dw.pure (i := 7) rfl (by kernel_rfl) (Want.yes rfl rfl rfl rfl) rfl (ltN rfl) (QP.indexAddr rfl rfl rfl Try.underlying22 z38 (by first | omega | (simp <;> omega)) (by first | omega | (simp <;> omega))) ?_
        refine Dw.pure (i := 8) rfl (by kernel_rfl) (Want.yes rfl rfl rfl rfl) rfl (ltN rfl) (QP.fieldAddr rfl rfl f38_0) ?_
        refine Dw.pure (i := 9) rfl (by kernel_rfl) (Want.yes rfl rfl rfl rfl) rfl (ltN rfl) (QP.fieldAddr rfl rfl f36_0) ?_
        refine Dw.pure (i := 10) rfl (by kernel_rfl) (Want.yes rfl rfl rfl rfl) rfl (ltN rfl) (QP.fieldAddr rfl rfl f33_1) ?_
        refine Dw.read (i := 11) rfl (by kernel_rfl) (Want.yes rfl rfl rfl rfl) rfl (ltN rfl) (QR.loadSlF1 rfl rfl g3 Entry.enc_len (SlAt.own Entry.enc_len (by repeat constructor)) h0 (((Entry.sub_pair _).trans (Pair.sub_dst _)).trans (Prefix.sub_len _))) ?_
        refine Dw.pure (i := 12) rfl (by kernel_rfl) (Want.yes rfl rfl rfl rfl) rfl (ltN rfl) (QP.gtr rfl rfl rfl) ?_
        refine J.caseD (fun c72 => ?_) (fun c72 => ?_)
        ·skip
         refine Dw.pure (i := 13) rfl (by kernel_rfl) (Want.none rfl) rfl (ltN rfl) (QP.pick_t rfl rfl rfl) ?_
         refine Dw.nil (by kernel_rfl) ?_
         refine hk23 _ _ ?_
         refine Run.cond_t rfl ?_
         refine Run.region ?_
         show Sq _ _ _ [0] _ _ _ _
         refine J.addSl 38 51 Entry.enc ?_
         refine Sq.quiet (i := 0) rfl (Want.none rfl) rfl (ltN rfl) (QP.assign rfl rfl).read ?_
         refine Sq.nil ?_
         refine hk22 _ _ ?_
         refine Run.seq fun k24 hk24 => ?_
         refine Run.regionD (M := [0, 1, 3, 7, 15, 31, 15, 79, 207, 463, 975, 1999, 4095, 8191]) (q := 16383) (r := 2080) (by kernel_rfl) ?_
         refine Dw.pure (i := 0) rfl (by kernel_rfl) (Want.none rfl) rfl (ltN rfl) (QP.move rfl rfl) ?_
         refine Dw.pure (i := 1) rfl (by kernel_rfl) (Want.none rfl) rfl (ltN rfl) (QP.len rfl rfl rfl Try.underlying22) ?_
         refine Dw.pure (i := 2) rfl (by kernel_rfl) (Want.none rfl) rfl (ltN rfl) (QP.eql rfl rfl rfl) ?_
         refine J.decT (by simp) ?_
         refine Dw.pure (i := 3) rfl (by kernel_rfl) (Want.none rfl) rfl (ltN rfl) (QP.move rfl rfl) ?_
         refine Dw.skip (i := 4) rfl (by kernel_rfl) (Want.no rfl rfl rfl rfl) rfl (ltN rfl) ?_
         refine Dw.skip (i := 5) rfl (by kernel_rfl) (Want.no rfl rfl rfl rfl) rfl (ltN rfl) ?_
         refine Dw.skip (i := 6) rfl (by kernel_rfl) (Want.no rfl rfl rfl rfl) rfl (ltN rfl) ?_
         refine Dw.skip (i := 7) rfl (by kernel_rfl) (Want.no rfl rfl rfl rfl) rfl (ltN rfl) ?_
         refine Dw.skip (i := 8) rfl (by kernel_rfl) (Want.no rfl rfl rfl rfl) rfl (ltN rfl) ?_
         refine Dw.skip (i := 9) rfl (by kernel_rfl) (Want.no rfl rfl rfl rfl) rfl (ltN rfl) ?_
         refine Dw.skip (i := 10) rfl (by kernel_rfl) (Want.no rfl rfl rfl rfl) rfl (ltN rfl) ?_
         refine Dw.skip (i := 11) rfl (by kernel_rfl) (Want.no rfl rfl rfl rfl) rfl (ltN rfl) ?_
         refine Dw.skip (i := 12) rfl (by kernel_rfl) (Want.no rfl rfl rfl rfl) rfl (ltN rfl) ?_
         refine Dw.pure (i := 13) rfl (by kernel_rfl) (Want.none rfl) rfl (ltN rfl) (QP.pick_t rfl rfl rfl) ?_
         refine Dw.nil (by kernel_rfl) ?_
         refine hk24 _ _ ?_
         refine Run.cond_t rfl ?_
         refine Run.region ?_
         show Sq _ _ _ [0, 1, 2, 3, 4] _ _ _ _
         refine Sq.quiet (i := 0) rfl (Want.none rfl) rfl (ltN rfl) (QP.move rfl rfl).read ?_
         refine Sq.quiet (i := 1) rfl (Want.none rfl) rfl (ltN rfl) (QR.load rfl rfl g38 (Entry.enc_sub _)) ?_
         refine Sq.eff (i := 2) rfl (Want.none rfl) rfl (ltN rfl) (EF.buildSlice1 rfl Try.underlying22 z38 zero38 (by simp [Value.cells, Entry.enc_len]) (by decide) rfl rfl (Entry.enc_len _) (by decide)) ?_
         rintro _ _ ⟨b90, rfl, rfl⟩
         refine Sq.eff (i := 3) rfl (Want.none rfl) rfl (ltN rfl) (EF.append1 (xs := _) (s := px.2) el38 Entry.enc_len Entry.enc_cell rfl rfl rfl Try.underlying22 Try.underlying22 rfl rfl (by repeat constructor) (by repeat constructor) (by first | omega | (simp <;> omega))) ?_
         rintro sl91 _ rfl
         refine Sq.quiet (i := 4) rfl (Want.none rfl) rfl (ltN rfl) (QP.assign rfl rfl).read ?_
         refine Sq.nil ?_
         have hmt : mtD d px.2 = true := by simp only [mtD, Bool.and_eq_true, decide_eq_true_eq]; exact ⟨Classical.not_not.1 c53, c57⟩
         have hfs : fstep d H px.2 = [] ++ [px.2] := by subst hHc; unfold fstep; rw [if_pos hmt]; simp only; rw [if_pos (show dlen px.2 > dlen hd from c72)]; rfl
         have hall := fstep_snoc d D E px.2
         rw [hH, hfs] at hall
         refine J.slEq (v := sl91) (by repeat constructor) hall.symm ?_
         exact J.envJ (J.keep (.cons (by repeat constructor) (.cons (by repeat constructor) (.cons (by repeat constructor) (.cons (by repeat constructor) (.cons (by repeat constructor) (.cons (by repeat constructor) (.cons (by repeat constructor) Takes.nil))))))) (hl14 (E ++ [px.2]) (todo.eraseIdx ix) (some px) (sl91) (by rw [List.append_assoc]; exact (List.Perm.append_left _ ((erase_perm hn42).map (·.2))).trans hperm) (by have h1 := (erase_perm hn42).length_eq; simp at h1; omega))) ⟨rfl, rfl, rfl, rfl, rfl, rfl, rfl, rfl, rfl, trivial⟩
        ·skip
         refine Dw.pure (i := 13) rfl (by kernel_rfl) (Want.none rfl) rfl (ltN rfl) (QP.pick_t rfl rfl rfl) ?_
         refine Dw.nil (by kernel_rfl) ?_
         refine hk23 _ _ ?_
         refine Run.cond_f rfl ?_
         refine Run.skip ?_
         refine hk22 _ _ ?_
         refine Run.seq fun k25 hk25 => ?_
         refine Run.regionD (M := [0, 1, 3, 7, 15, 31, 15, 79, 207, 463, 975, 1999, 4095, 8191]) (q := 16383) (r := 2080) (by kernel_rfl) ?_
         refine Dw.pure (i := 0) rfl (by kernel_rfl) (Want.none rfl) rfl (ltN rfl) (QP.move rfl rfl) ?_
         refine Dw.pure (i := 1) rfl (by kernel_rfl) (Want.none rfl) rfl (ltN rfl) (QP.len rfl rfl rfl Try.underlying22) ?_
         refine Dw.pure (i := 2) rfl (by kernel_rfl) (Want.none rfl) rfl (ltN rfl) (QP.eql rfl rfl rfl) ?_
         refine J.decF (by omega) ?_
         refine Dw.pure (i := 3) rfl (by kernel_rfl) (Want.none rfl) rfl (ltN rfl) (QP.move rfl rfl) ?_
         refine Dw.pure (i := 4) rfl (by kernel_rfl) (Want.yes rfl rfl rfl rfl) rfl (ltN rfl) (QP.fieldAddr rfl rfl f33_1) ?_
         refine Dw.read (i := 5) rfl (by kernel_rfl) (Want.yes rfl rfl rfl rfl) rfl (ltN rfl) (QR.load1 rfl rfl g3 (Prefix.sub_len _)) ?_
         refine Dw.pure (i := 6) rfl (by kernel_rfl) (Want.yes rfl rfl rfl rfl) rfl (ltN rfl) (QP.move rfl rfl) ?_
         refine Dw.pure (i := 7) rfl (by kernel_rfl) (Want.yes rfl rfl rfl rfl) rfl (ltN rfl) (QP.indexAddr rfl rfl rfl Try.underlying22 z38 (by first | omega | (simp <;> omega)) (by first | omega | (simp <;> omega))) ?_
         refine Dw.pure (i := 8) rfl (by kernel_rfl) (Want.yes rfl rfl rfl rfl) rfl (ltN rfl) (QP.fieldAddr rfl rfl f38_0) ?_
         refine Dw.pure (i := 9) rfl (by kernel_rfl) (Want.yes rfl rfl rfl rfl) rfl (ltN rfl) (QP.fieldAddr rfl rfl f36_0) ?_
         refine Dw.pure (i := 10) rfl (by kernel_rfl) (Want.yes rfl rfl rfl rfl) rfl (ltN rfl) (QP.fieldAddr rfl rfl f33_1) ?_
         refine Dw.read (i := 11) rfl (by kernel_rfl) (Want.yes rfl rfl rfl rfl) rfl (ltN rfl) (QR.loadSlF1 rfl rfl g3 Entry.enc_len (SlAt.own Entry.enc_len (by repeat constructor)) h0 (((Entry.sub_pair _).trans (Pair.sub_dst _)).trans (Prefix.sub_len _))) ?_
         refine Dw.pure (i := 12) rfl (by kernel_rfl) (Want.yes rfl rfl rfl rfl) rfl (ltN rfl) (QP.eql rfl rfl rfl) ?_
         refine J.caseD (fun c86 => ?_) (fun c86 => ?_)
         ·skip
          refine Dw.pure (i := 13) rfl (by kernel_rfl) (Want.none rfl) rfl (ltN rfl) (QP.pick_f rfl rfl rfl) ?_
          refine Dw.nil (by kernel_rfl) ?_
          refine hk25 _ _ ?_
          refine Run.cond_t rfl ?_
          refine Run.region ?_
          show Sq _ _ _ [0, 1, 2, 3, 4] _ _ _ _
          refine Sq.quiet (i := 0) rfl (Want.none rfl) rfl (ltN rfl) (QP.move rfl rfl).read ?_
          refine Sq.quiet (i := 1) rfl (Want.none rfl) rfl (ltN rfl) (QR.load rfl rfl g38 (Entry.enc_sub _)) ?_
          refine Sq.eff (i := 2) rfl (Want.none rfl) rfl (ltN rfl) (EF.buildSlice1 rfl Try.underlying22 z38 zero38 (by simp [Value.cells, Entry.enc_len]) (by decide) rfl rfl (Entry.enc_len _) (by decide)) ?_
          rintro _ _ ⟨b90, rfl, rfl⟩
          refine Sq.eff (i := 3) rfl (Want.none rfl) rfl (ltN rfl) (EF.append1 (xs := H) (s := px.2) el38 Entry.enc_len Entry.enc_cell rfl rfl rfl Try.underlying22 Try.underlying22 rfl rfl (by repeat constructor) (by repeat constructor) (by first | omega | (simp <;> omega))) ?_
          rintro sl91 _ rfl
          refine Sq.quiet (i := 4) rfl (Want.none rfl) rfl (ltN rfl) (QP.assign rfl rfl).read ?_
          refine Sq.nil ?_
          have hmt : mtD d px.2 = true := by simp only [mtD, Bool.and_eq_true, decide_eq_true_eq]; exact ⟨Classical.not_not.1 c53, c57⟩
          have hfs : fstep d H px.2 = H ++ [px.2] := by subst hHc; unfold fstep; rw [if_pos hmt]; simp only; rw [if_neg (show ¬ dlen px.2 > dlen hd from c72), if_pos (show dlen px.2 = dlen hd from c86)]
          have hall := fstep_snoc d D E px.2
          rw [hH, hfs] at hall
          refine J.slEq (v := sl91) (by repeat constructor) hall.symm ?_
          exact J.envJ (J.keep (.cons (by repeat constructor) (.cons (by repeat constructor) (.cons (by repeat constructor) (.cons (by repeat constructor) (.cons (by repeat constructor) (.cons (by repeat constructor) (.cons (by repeat constructor) Takes.nil))))))) (hl14 (E ++ [px.2]) (todo.eraseIdx ix) (some px) (sl91) (by rw [List.append_assoc]; exact (List.Perm.append_left _ ((erase_perm hn42).map (·.2))).trans hperm) (by have h1 := (erase_perm hn42).length_eq; simp at h1; omega))) ⟨rfl, rfl, rfl, rfl, rfl, rfl, rfl, rfl, rfl, trivial⟩
         ·skip
          refine Dw.pure (i := 13) rfl (by kernel_rfl) (Want.none rfl) rfl (ltN rfl) (QP.pick_f rfl rfl rfl) ?_
          refine Dw.nil (by kernel_rfl) ?_
          refine hk25 _ _ ?_
          refine Run.cond_f rfl ?_
          refine Run.skip ?_
          have hmt : mtD d px.2 = true := by simp only [mtD, Bool.and_eq_true, decide_eq_true_eq]; exact ⟨Classical.not_not.1 c53, c57⟩
          have hfs : fstep d H px.2 = H := by subst hHc; unfold fstep; rw [if_pos hmt]; simp only; rw [if_neg (show ¬ dlen px.2 > dlen hd from c72), if_neg (show ¬ dlen px.2 = dlen hd from c86)]
          have hall := fstep_snoc d D E px.2
          rw [hH, hfs] at hall
          refine J.slEq (v := .slice (some ⟨b0, o0, none⟩) H.length ch) (by repeat constructor) hall.symm ?_
          exact J.envJ (J.keep (.cons (by repeat constructor) (.cons (by repeat constructor) (.cons (by repeat constructor) (.cons (by repeat constructor) (.cons (by repeat constructor) (.cons (by repeat constructor) (.cons (by repeat constructor) Takes.nil))))))) (hl14 (E ++ [px.2]) (todo.eraseIdx ix) (some px) (.slice (some ⟨b0, o0, none⟩) H.length ch) (by rw [List.append_assoc]; exact (List.Perm.append_left _ ((erase_perm hn42).map (·.2))).trans hperm) (by have h1 := (erase_perm hn42).length_eq; simp at h1; omega))) ⟨rfl, rfl, rfl, rfl, rfl, rfl, rfl, rfl, rfl, trivial⟩
       ·skip
        refine Dw.pure (i := 3) rfl (by kernel_rfl) (Want.none rfl) rfl (ltN rfl) (QP.move rfl rfl) ?_
        refine Dw.skip (i := 4) rfl (by kernel_rfl) (Want.no rfl rfl rfl rfl) rfl (ltN rfl) ?_
        refine Dw.skip (i := 5) rfl (by kernel_rfl) (Want.no rfl rfl rfl rfl) rfl (ltN rfl) ?_
        refine Dw.skip (i := 6) rfl (by kernel_rfl) (Want.no rfl rfl rfl rfl) rfl (ltN rfl) ?_
        refine Dw.skip (i := 7) rfl (by kernel_rfl) (Want.no rfl rfl rfl rfl) rfl (ltN rfl) ?_
        refine Dw.skip (i := 8) rfl (by kernel_rfl) (Want.no rfl rfl rfl rfl) rfl (ltN rfl) ?_
        refine Dw.skip (i := 9) rfl (by kernel_rfl) (Want.no rfl rfl rfl rfl) rfl (ltN rfl) ?_
        refine Dw.skip (i := 10) rfl (by kernel_rfl) (Want.no rfl rfl rfl rfl) rfl (ltN rfl) ?_
        refine Dw.skip (i := 11) rfl (by kernel_rfl) (Want.no rfl rfl rfl rfl) rfl (ltN rfl) ?_
        refine Dw.skip (i := 12) rfl (by kernel_rfl) (Want.no rfl rfl rfl rfl) rfl (ltN rfl) ?_
        refine Dw.pure (i := 13) rfl (by kernel_rfl) (Want.none rfl) rfl (ltN rfl) (QP.pick_f rfl rfl rfl) ?_
        refine Dw.nil (by kernel_rfl) ?_
        refine hk23 _ _ ?_
        refine Run.cond_f rfl ?_
        refine Run.skip ?_
        refine hk22 _ _ ?_
        refine Run.seq fun k26 hk26 => ?_
        refine Run.regionD (M := [0, 1, 3, 7, 15, 31, 15, 79, 207, 463, 975, 1999, 4095, 8191]) (q := 16383) (r := 2080) (by kernel_rfl) ?_
        refine Dw.pure (i := 0) rfl (by kernel_rfl) (Want.none rfl) rfl (ltN rfl) (QP.move rfl rfl) ?_
        refine Dw.pure (i := 1) rfl (by kernel_rfl) (Want.none rfl) rfl (ltN rfl) (QP.len rfl rfl rfl Try.underlying22) ?_
        refine Dw.pure (i := 2) rfl (by kernel_rfl) (Want.none rfl) rfl (ltN rfl) (QP.eql rfl rfl rfl) ?_
        refine J.decT (by omega) ?_
        refine Dw.pure (i := 3) rfl (by kernel_rfl) (Want.none rfl) rfl (ltN rfl) (QP.move rfl rfl) ?_
        refine Dw.skip (i := 4) rfl (by kernel_rfl) (Want.no rfl rfl rfl rfl) rfl (ltN rfl) ?_
        refine Dw.skip (i := 5) rfl (by kernel_rfl) (Want.no rfl rfl rfl rfl) rfl (ltN rfl) ?_
        refine Dw.skip (i := 6) rfl (by kernel_rfl) (Want.no rfl rfl rfl rfl) rfl (ltN rfl) ?_
        refine Dw.skip (i := 7) rfl (by kernel_rfl) (Want.no rfl rfl rfl rfl) rfl (ltN rfl) ?_
        refine Dw.skip (i := 8) rfl (by kernel_rfl) (Want.no rfl rfl rfl rfl) rfl (ltN rfl) ?_
        refine Dw.skip (i := 9) rfl (by kernel_rfl) (Want.no rfl rfl rfl rfl) rfl (ltN rfl) ?_
        refine Dw.skip (i := 10) rfl (by kernel_rfl) (Want.no rfl rfl rfl rfl) rfl (ltN rfl) ?_
        refine Dw.skip (i := 11) rfl (by kernel_rfl) (Want.no rfl rfl rfl rfl) rfl (ltN rfl) ?_
        refine Dw.skip (i := 12) rfl (by kernel_rfl) (Want.no rfl rfl rfl rfl) rfl (ltN rfl) ?_
        refine Dw.pure (i := 13) rfl (by kernel_rfl) (Want.none rfl) rfl (ltN rfl) (QP.pick_t rfl rfl rfl) ?_
        refine Dw.nil (by kernel_rfl) ?_
        refine hk26 _ _ ?_
        refine Run.cond_t rfl ?_
        refine Run.region ?_
        show Sq _ _ _ [0, 1, 2, 3, 4] _ _ _ _
        refine Sq.quiet (i := 0) rfl (Want.none rfl) rfl (ltN rfl) (QP.move rfl rfl).read ?_
        refine Sq.quiet (i := 1) rfl (Want.none rfl) rfl (ltN rfl) (QR.load rfl rfl g38 (Entry.enc_sub _)) ?_
        refine Sq.eff (i := 2) rfl (Want.none rfl) rfl (ltN rfl) (EF.buildSlice1 rfl Try.underlying22 z38 zero38 (by simp [Value.cells, Entry.enc_len]) (by decide) rfl rfl (Entry.enc_len _) (by decide)) ?_
        rintro _ _ ⟨b90, rfl, rfl⟩
        refine Sq.eff (i := 3) rfl (Want.none rfl) rfl (ltN rfl) (EF.append1 (xs := H) (s := px.2) el38 Entry.enc_len Entry.enc_cell rfl rfl rfl Try.underlying22 Try.underlying22 rfl rfl (by repeat constructor) (by repeat constructor) (by first | omega | (simp <;> omega))) ?_
        rintro sl91 _ rfl
        refine Sq.quiet (i := 4) rfl (Want.none rfl) rfl (ltN rfl) (QP.assign rfl rfl).read ?_
        refine Sq.nil ?_
        have hmt : mtD d px.2 = true := by simp only [mtD, Bool.and_eq_true, decide_eq_true_eq]; exact ⟨Classical.not_not.1 c53, c57⟩
        obtain rfl : H = [] := List.eq_nil_of_length_eq_zero (by omega)
        have hfs : fstep d [] px.2 = [] ++ [px.2] := by unfold fstep; rw [if_pos hmt]; rfl
        have hall := fstep_snoc d D E px.2
        rw [hH, hfs] at hall
        refine J.slEq (v := sl91) (by repeat constructor) hall.symm ?_
        exact J.envJ (J.keep (.cons (by repeat constructor) (.cons (by repeat constructor) (.cons (by repeat constructor) (.cons (by repeat constructor) (.cons (by repeat constructor) (.cons (by repeat constructor) (.cons (by repeat constructor) Takes.nil))))))) (hl14 (E ++ [px.2]) (todo.eraseIdx ix) (some px) (sl91) (by rw [List.append_assoc]; exact (List.Perm.append_left _ ((erase_perm hn42).map (·.2))).trans hperm) (by have h1 := (erase_perm hn42).length_eq; simp at h1; omega))) ⟨rfl, rfl, rfl, rfl, rfl, rfl, rfl, rfl, rfl, trivial⟩
      ·skip
       refine Dw.pure (i := 9) rfl (by kernel_rfl) (Want.yes rfl rfl rfl rfl) rfl (ltN rfl) (QP.not rfl rfl) ?_
       refine Dw.pure (i := 10) rfl (by kernel_rfl) (Want.none rfl) rfl (ltN rfl) (QP.pick_f rfl rfl rfl) ?_
       refine Dw.nil (by kernel_rfl) ?_
       refine hk21 _ _ ?_
       refine Run.cond_t rfl ?_
       refine Run.exit rfl ?_
       have hfs : fstep d H px.2 = H := by unfold fstep; rw [if_neg (by simp only [mtD, Bool.and_eq_true]; exact fun h => by rw [c57] at h; cases h.2)]
       have hall := fstep_snoc d D E px.2
       rw [hH, hfs] at hall
       refine J.slEq (v := .slice ah H.length ch) (by repeat constructor) hall.symm ?_
       exact J.envJ (J.keep (.cons (by repeat constructor) (.cons (by repeat constructor) (.cons (by repeat constructor) (.cons (by repeat constructor) (.cons (by repeat constructor) (.cons (by repeat constructor) (.cons (by repeat constructor) Takes.nil))))))) (hl14 (E ++ [px.2]) (todo.eraseIdx ix) (some px) (.slice ah H.length ch) (by rw [List.append_assoc]; exact (List.Perm.append_left _ ((erase_perm hn42).map (·.2))).trans hperm) (by have h1 := (erase_perm hn42).length_eq; simp at h1; omega))) ⟨rfl, rfl, rfl, rfl, rfl, rfl, rfl, rfl, rfl, trivial⟩
   ·skip
    refine Sq.quiet (i := 1) rfl (Want.none rfl) rfl (ltN rfl) (QR.load1 rfl rfl g62 (⟨[_], [], rfl, rfl, rfl⟩)) ?_
    refine Sq.quiet (i := 2) rfl (Want.none rfl) rfl (ltN rfl) (QP.assign rfl rfl).read ?_
    refine Sq.nil ?_
    refine hk12 _ _ ?_
    refine Run.seq fun k27 hk27 => ?_
    refine Run.region ?_
    show Sq _ _ _ [0, 1] _ _ _ _
    refine Sq.slEq (v := vh) (by repeat constructor) (show D.foldl (fstep d) [] = (D ++ []).foldl (fstep d) [] by rw [List.append_nil]) ?_
    refine Sq.quiet (i := 0) rfl (Want.none rfl) rfl (ltN rfl) (QP.move rfl rfl).read ?_
    refine Sq.eff (i := 1) rfl (Want.none rfl) rfl (ltN rfl) (EF.range rfl rfl Try.underlying62 (by repeat constructor)) ?_
    rintro _ _ ⟨it41, rfl, rfl⟩
    refine Sq.nil ?_
    refine hk27 _ _ ?_
    refine Run.block ?_
    refine Run.loop4 (fun (E : List Entry) (todo : TabE) (cur : Option (Pair × Entry)) (vi : Value) => (E ++ todo.map (·.2)).Perm (valsE M2)) (fun E todo cur vi => .cons 4 (.pointer (some ⟨b4, 0, none⟩)) (.cons 5 (.pointer (some ⟨b5, 0, none⟩)) (.cons 6 (.pointer (some ⟨b6, 0, none⟩)) (.cons 7 (.bool false) (.cons 8 (vi) (.cons 34 (.slice (some ⟨b34, 0, none⟩) 2 2) (.cons 35 (.int .i64 2) (.cons 36 (.int .i64 ((1 : Nat) : Int)) (.cons 41 (.pointer (some ⟨it41, 0, none⟩)) (.nil)))))))))) (fun E todo cur vi => [rangeT keyE valE r2 it41 M2 todo cur, mapE r1 M1, blk b4 (Bs.enc s) 30, blk b5 (Bs.enc d) 30, blk b6 (Entry.enc Entry.zero) 38, blk b34 [.map (some r1), .map (some r2)] 62, slA 38 51 Entry.enc vi ((D ++ E).foldl (fstep d) [])]) (fun E todo cur vi => todo.length) ([]) (M2) (none) (vh) (List.Perm.refl _) ?_ ?_
    ·exact fun _ j => J.envJ (J.keep (.cons (by repeat constructor) (.cons (by repeat constructor) (.cons (by repeat constructor) (.cons (by repeat constructor) (.cons (by repeat constructor) (.cons (by repeat constructor) (.cons (by repeat constructor) Takes.nil))))))) j) ⟨rfl, rfl, rfl, rfl, rfl, rfl, rfl, rfl, rfl, trivial⟩
    rintro E todo cur vi hperm kl28 hl28
    refine Run.seq fun k29 hk29 => ?_
    refine Run.region ?_
    show Sq _ _ _ [0, 1] _ _ _ _
    refine Sq.eff (i := 0) rfl (Want.none rfl) rfl (ltN rfl) (EF.next rfl rfl (by repeat constructor)) ?_
    rintro _ _ (⟨hn42, rfl, rfl⟩ | ⟨ix, px, hn42, rfl, rfl⟩)
    ·skip
     subst hn42
     have hEp : E.Perm (valsE M2) := by simpa using hperm
     refine Sq.quiet (i := 1) rfl (Want.none rfl) rfl (ltN rfl) (QP.extract rfl rfl rfl).read ?_
     refine Sq.nil ?_
     refine hk29 _ _ ?_
     refine Run.seq fun k30 hk30 => ?_
     refine Run.cond_f rfl ?_
     refine Run.exit rfl ?_
     refine hk11 _ _ ?_
     refine Run.region ?_
     show Sq _ _ _ [0, 1] _ _ _ _
     refine Sq.quiet (i := 0) rfl (Want.none rfl) rfl (ltN rfl) (QP.add64 rfl rfl rfl (by first | omega | (simp <;> omega)) (by first | omega | (simp <;> omega))).read ?_
     refine Sq.quiet (i := 1) rfl (Want.none rfl) rfl (ltN rfl) (QP.move rfl rfl).read ?_
     refine Sq.nil ?_
     refine J.rangeEnd (by repeat constructor) ?_
     exact J.envJ (J.keep (.cons (by repeat constructor) (.cons (by repeat constructor) (.cons (by repeat constructor) (.cons (by repeat constructor) (.cons (by repeat constructor) (.cons (by repeat constructor) (.cons (by repeat constructor) Takes.nil))))))) (hl8 (2) (D ++ E) (vi) (⟨by omega, hD.append hEp⟩) (by omega))) ⟨rfl, rfl, rfl, rfl, rfl, rfl, rfl, rfl, trivial⟩
    ·skip
     have hEl : E.length ≤ 100000 := by have h1 := hperm.length_eq; simp [valsE] at h1; omega
     have hDl : D.length ≤ 200000 := Nat.le_trans (Nat.le_of_eq hD.length_eq) (upto2_len hm1 hm2 _)
     obtain ⟨H, hH⟩ : ∃ H, ((D ++ E).foldl (fstep d) []) = H := ⟨_, rfl⟩
     have hHl : H.length ≤ 300000 := by rw [← hH]; have := fold_len d (D ++ E) []; simp only [List.length_append, List.length_nil] at this; omega
     rw [hH]
     refine J.slCase (v := vi) (xs := H) (by repeat constructor) (fun ah ch hvh hhh => ?_)
     subst hvh
     refine Sq.quiet (i := 1) rfl (Want.none rfl) rfl (ltN rfl) (QP.extract rfl rfl rfl).read ?_
     refine Sq.nil ?_
     refine hk29 _ _ ?_
     refine Run.seq fun k31 hk31 => ?_
     refine Run.cond_t rfl ?_
     refine Run.skip ?_
     refine hk31 _ _ ?_
     refine Run.block ?_
     refine Run.seq fun k32 hk32 => ?_
     refine Run.region ?_
     show Sq _ _ _ [0, 1, 2, 3] _ _ _ _
     refine Sq.quiet (i := 0) rfl (Want.none rfl) rfl (ltN rfl) (QR.entry rfl rfl) ?_
     refine Sq.quiet (i := 1) rfl (Want.none rfl) rfl (ltN rfl) (QP.extract rfl rfl rfl).read ?_
     refine Sq.eff (i := 2) rfl (Want.none rfl) rfl (ltN rfl) (EF.allocA (l := Entry.enc Entry.zero) rfl zero38) ?_
     rintro _ _ ⟨b12, rfl, rfl⟩
     refine Sq.act (i := 3) rfl (Want.none rfl) rfl (EF.storeA rfl rfl rfl z38 (SetL.all (Entry.enc_len _) (Entry.enc_len _)) (Entry.enc_cell _)) ?_
     rintro _ _ rfl
     refine Sq.nil ?_
     refine hk32 _ _ ?_
     refine Run.seq fun k33 hk33 => ?_
     refine Run.region ?_
     show Sq _ _ _ [0, 1, 2, 3, 4] _ _ _ _
     refine Sq.quiet (i := 0) rfl (Want.none rfl) rfl (ltN rfl) (QP.fieldAddr rfl rfl f38_0).read ?_
     refine Sq.quiet (i := 1) rfl (Want.none rfl) rfl (ltN rfl) (QP.fieldAddr rfl rfl f36_0).read ?_
     refine Sq.quiet (i := 2) rfl (Want.none rfl) rfl (ltN rfl) (QR.load rfl rfl g33 ((Entry.sub_pair _).trans (Pair.sub_dst _))) ?_
     refine Sq.eff (i := 3) rfl (Want.none rfl) rfl (ltN rfl) (EF.allocA (l := Prefix.enc Prefix.zero) rfl zero33) ?_
     rintro _ _ ⟨b13, rfl, rfl⟩
     refine Sq.act (i := 4) rfl (Want.none rfl) rfl (EF.storeA rfl rfl rfl z33 (SetL.all (Prefix.enc_len _) (Prefix.enc_len _)) (Prefix.enc_cell _)) ?_
     rintro _ _ rfl
     refine Sq.nil ?_
     refine hk33 _ _ ?_
     refine Run.seq fun k34 hk34 => ?_
     refine Run.seq fun k35 hk35 => ?_
     refine Run.regionD (M := [0, 1, 0, 7, 15, 31, 63, 63, 255, 511, 1023]) (q := 1781) (r := 197) (by kernel_rfl) ?_
     refine Dw.read (i := 0) rfl (by kernel_rfl) (Want.none rfl) rfl (ltN rfl) (QR.load rfl rfl g33 (Prefix.enc_sub _)) ?_
     refine Dw.read (i := 2) rfl (by kernel_rfl) (Want.none rfl) rfl (ltN rfl) (QR.load rfl rfl g30 (Bs.sub _)) ?_
     refine Dw.eff (i := 1) (by kernel_rfl) (by kernel_rfl) ?_
     refine One.mk (o := _) (l := [2]) rfl (by kernel_rfl) (Want.none rfl) rfl (ltN rfl) (EF.call rfl ce20 rfl Takes.nil (fun F' hle hr => pfamily_spec F' (((px.2).pair).dst))) (by kernel_rfl) ?_
     rintro _ _ ⟨_, ⟨rfl, rfl⟩, rfl⟩
     refine ⟨?_, ?_⟩
     ·rw [List.forall_mem_cons]
      refine ⟨?_, fun _ h => (by cases h)⟩
      ·refine Look.app ?_
       exact Look.mk rfl rfl rfl (QR.load rfl rfl g30 (Bs.sub _))
     refine ?_
     refine J.app ?_
     refine Dw.eff (i := 3) (by kernel_rfl) (by kernel_rfl) ?_
     refine One.mk (o := _) (l := []) rfl (by kernel_rfl) (Want.none rfl) rfl (ltN rfl) (EF.call rfl ce21 rfl Takes.nil (fun F' hle hr => family_spec F' (d))) (by kernel_rfl) ?_
     rintro _ _ ⟨_, ⟨rfl, rfl⟩, rfl⟩
     refine ⟨fun _ h => (by cases h), ?_⟩
     refine J.app ?_
     refine Dw.pure (i := 4) rfl (by kernel_rfl) (Want.none rfl) rfl (ltN rfl) (QP.neq rfl rfl rfl) ?_
     refine J.caseD (fun c53 => ?_) (fun c53 => ?_)
     ·skip
      refine Dw.pure (i := 5) rfl (by kernel_rfl) (Want.none rfl) rfl (ltN rfl) (QP.move rfl rfl) ?_
      refine Dw.skip (i := 6) rfl (by kernel_rfl) (Want.no rfl rfl rfl rfl) rfl (ltN rfl) ?_
      refine Dw.skip (i := 7) rfl (by kernel_rfl) (Want.no rfl rfl rfl rfl) rfl (ltN rfl) ?_
      refine Dw.eff (i := 8) (by kernel_rfl) (by kernel_rfl) ?_
      refine One.skipD (o := _) rfl (by kernel_rfl) (Want.no rfl rfl rfl rfl) rfl (ltN rfl) ?_
      refine Dw.skip (i := 9) rfl (by kernel_rfl) (Want.no rfl rfl rfl rfl) rfl (ltN rfl) ?_
      refine Dw.pure (i := 10) rfl (by kernel_rfl) (Want.none rfl) rfl (ltN rfl) (QP.pick_t rfl rfl rfl) ?_
      refine Dw.nil (by kernel_rfl) ?_
      refine hk35 _ _ ?_
      refine Run.cond_t rfl ?_
      refine Run.exit rfl ?_
      have hfs : fstep d H px.2 = H := by unfold fstep; rw [if_neg (by simp only [mtD, Bool.and_eq_true, decide_eq_true_eq]; exact fun h => c53 h.1)]
      have hall := fstep_snoc d D E px.2
      rw [hH, hfs] at hall
      refine J.slEq (v := .slice ah H.length ch) (by repeat constructor) hall.symm ?_
      exact J.envJ (J.keep (.cons (by repeat constructor) (.cons (by repeat constructor) (.cons (by repeat constructor) (.cons (by repeat constructor) (.cons (by repeat constructor) (.cons (by repeat constructor) (.cons (by repeat constructor) Takes.nil))))))) (hl28 (E ++ [px.2]) (todo.eraseIdx ix) (some px) (.slice ah H.length ch) (by rw [List.append_assoc]; exact (List.Perm.append_left _ ((erase_perm hn42).map (·.2))).trans hperm) (by have h1 := (erase_perm hn42).length_eq; simp at h1; omega))) ⟨rfl, rfl, rfl, rfl, rfl, rfl, rfl, rfl, rfl, trivial⟩
     ·skip
      refine Dw.pure (i := 5) rfl (by kernel_rfl) (Want.none rfl) rfl (ltN rfl) (QP.move rfl rfl) ?_
      refine Dw.read (i := 6) rfl (by kernel_rfl) (Want.yes rfl rfl rfl rfl) rfl (ltN rfl) (QR.load rfl rfl g33 (Prefix.enc_sub _)) ?_
      refine Dw.read (i := 7) rfl (by kernel_rfl) (Want.yes rfl rfl rfl rfl) rfl (ltN rfl) (QR.load rfl rfl g30 (Bs.sub _)) ?_
      refine Dw.eff (i := 8) (by kernel_rfl) (by kernel_rfl) ?_
      refine One.mk (o := _) (l := []) rfl (by kernel_rfl) (Want.yes rfl rfl rfl rfl) rfl (ltN rfl) (EF.call rfl ce22 rfl Takes.nil (fun F' hle hr => contains_spec F' (((px.2).pair).dst) (d))) (by kernel_rfl) ?_
      rintro _ _ ⟨_, ⟨rfl, rfl⟩, rfl⟩
      refine ⟨fun _ h => (by cases h), ?_⟩
      refine J.app ?_
      refine J.caseB (fun c57 => ?_) (fun c57 => ?_)
      ·skip
       refine Dw.pure (i := 9) rfl (by kernel_rfl) (Want.yes rfl rfl rfl rfl) rfl (ltN rfl) (QP.not rfl rfl) ?_
       refine Dw.pure (i := 10) rfl (by kernel_rfl) (Want.none rfl) rfl (ltN rfl) (QP.pick_f rfl rfl rfl) ?_
       refine Dw.nil (by kernel_rfl) ?_
       refine hk35 _ _ ?_
       refine Run.cond_f rfl ?_
       refine Run.skip ?_
       refine hk34 _ _ ?_
       refine Run.seq fun k36 hk36 => ?_
       refine Run.seq fun k37 hk37 => ?_
       refine Run.regionD (M := [0, 1, 3, 7, 15, 31, 15, 79, 207, 463, 975, 1999, 4095, 8191]) (q := 16383) (r := 2080) (by kernel_rfl) ?_
       refine Dw.pure (i := 0) rfl (by kernel_rfl) (Want.none rfl) rfl (ltN rfl) (QP.move rfl rfl) ?_
       refine Dw.pure (i := 1) rfl (by kernel_rfl) (Want.none rfl) rfl (ltN rfl) (QP.len rfl rfl rfl Try.underlying22) ?_
       refine Dw.pure (i := 2) rfl (by kernel_rfl) (Want.none rfl) rfl (ltN rfl) (QP.gtr rfl rfl rfl) ?_
       refine J.caseD (fun c62 => ?_) (fun c62 => ?_)
       ·skip
        refine Dw.pure (i := 3) rfl (by kernel_rfl) (Want.none rfl) rfl (ltN rfl) (QP.move rfl rfl) ?_
        obtain ⟨b0, o0, rfl⟩ := hhh.get (by omega)
        obtain ⟨hd, H2, hHc⟩ : ∃ hd H2, H = hd :: H2 := by
          cases H with
          | nil => simp at c62
          | cons x y => exact ⟨x, y, rfl⟩
        have h0 : H[Int.toNat 0]? = some hd := by rw [hHc]; rfl
        refine Dw.pure (i := 4) rfl (by kernel_rfl) (Want.yes rfl rfl rfl rfl) rfl (ltN rfl) (QP.fieldAddr rfl rfl f33_1) ?_
        refine Dw.read (i := 5) rfl (by kernel_rfl) (Want.yes rfl rfl rfl rfl) rfl (ltN rfl) (QR.load1 rfl rfl g3 (Prefix.sub_len _)) ?_
        refine Dw.pure (i := 6) rfl (by kernel_rfl) (Want.yes rfl rfl rfl rfl) rfl (ltN rfl) (QP.move rfl rfl) ?_
        refine Dw.pure (i := 7) rfl (by kernel_rfl) (Want.yes rfl rfl rfl rfl) rfl (ltN rfl) (QP.indexAddr rfl rfl rfl Try.underlying22 z38 (by first | omega | (simp <;> omega)) (by first | omega | (simp <;> omega))) ?_
        refine Dw.pure (i := 8) rfl (by kernel_rfl) (Want.yes rfl rfl rfl rfl) rfl (ltN rfl) (QP.fieldAddr rfl rfl f38_0) ?_
        refine Dw.pure (i := 9) rfl (by kernel_rfl) (Want.yes rfl rfl rfl rfl) rfl (ltN rfl) (QP.fieldAddr rfl rfl f36_0) ?_
        refine Dw.pure (i := 10) rfl (by kernel_rfl) (Want.yes rfl rfl rfl rfl) rfl (ltN rfl) (QP.fieldAddr rfl rfl f33_1) ?_
        refine Dw.read (i := 11) rfl (by kernel_rfl) (Want.yes rfl rfl rfl rfl) rfl (ltN rfl) (QR.loadSlF1 rfl rfl g3 Entry.enc_len (SlAt.own Entry.enc_len (by repeat constructor)) h0 (((Entry.sub_pair _).trans (Pair.sub_dst _)).trans (Prefix.sub_len _))) ?_
        refine Dw.pure (i := 12) rfl (by kernel_rfl) (Want.yes rfl rfl rfl rfl) rfl (ltN rfl) (QP.gtr rfl rfl rfl) ?_
        refine J.caseD (fun c72 => ?_) (fun c72 => ?_)
        ·skip
         refine Dw.pure (i := 13) rfl (by kernel_rfl) (Want.none rfl) rfl (ltN rfl) (QP.pick_t rfl rfl rfl) ?_
         refine Dw.nil (by kernel_rfl) ?_
         refine hk37 _ _ ?_
         refine Run.cond_t rfl ?_
         refine Run.region ?_
         show Sq _ _ _ [0] _ _ _ _
         refine J.addSl 38 51 Entry.enc ?_
         refine Sq.quiet (i := 0) rfl (Want.none rfl) rfl (ltN rfl) (QP.assign rfl rfl).read ?_
         refine Sq.nil ?_
         refine hk36 _ _ ?_
         refine Run.seq fun k38 hk38 => ?_
         refine Run.regionD (M := [0, 1, 3, 7, 15, 31, 15, 79, 207, 463, 975, 1999, 4095, 8191]) (q := 16383) (r := 2080) (by kernel_rfl) ?_
         refine Dw.pure (i := 0) rfl (by kernel_rfl) (Want.none rfl) rfl (ltN rfl) (QP.move rfl rfl) ?_
         refine Dw.pure (i := 1) rfl (by kernel_rfl) (Want.none rfl) rfl (ltN rfl) (QP.len rfl rfl rfl Try.underlying22) ?_
         refine Dw.pure (i := 2) rfl (by kernel_rfl) (Want.none rfl) rfl (ltN rfl) (QP.eql rfl rfl rfl) ?_
         refine J.decT (by simp) ?_
         refine Dw.pure (i := 3) rfl (by kernel_rfl) (Want.none rfl) rfl (ltN rfl) (QP.move rfl rfl) ?_
         refine Dw.skip (i := 4) rfl (by kernel_rfl) (Want.no rfl rfl rfl rfl) rfl (ltN rfl) ?_
         refine Dw.skip (i := 5) rfl (by kernel_rfl) (Want.no rfl rfl rfl rfl) rfl (ltN rfl) ?_
         refine Dw.skip (i := 6) rfl (by kernel_rfl) (Want.no rfl rfl rfl rfl) rfl (ltN rfl) ?_
         refine Dw.skip (i := 7) rfl (by kernel_rfl) (Want.no rfl rfl rfl rfl) rfl (ltN rfl) ?_
         refine Dw.skip (i := 8) rfl (by kernel_rfl) (Want.no rfl rfl rfl rfl) rfl (ltN rfl) ?_
         refine Dw.skip (i := 9) rfl (by kernel_rfl) (Want.no rfl rfl rfl rfl) rfl (ltN rfl) ?_
         refine Dw.skip (i := 10) rfl (by kernel_rfl) (Want.no rfl rfl rfl rfl) rfl (ltN rfl) ?_
         refine Dw.skip (i := 11) rfl (by kernel_rfl) (Want.no rfl rfl rfl rfl) rfl (ltN rfl) ?_
         refine Dw.skip (i := 12) rfl (by kernel_rfl) (Want.no rfl rfl rfl rfl) rfl (ltN rfl) ?_
         refine Dw.pure (i := 13) rfl (by kernel_rfl) (Want.none rfl) rfl (ltN rfl) (QP.pick_t rfl rfl rfl) ?_
         refine Dw.nil (by kernel_rfl) ?_
         refine hk38 _ _ ?_
         refine Run.cond_t rfl ?_
         refine Run.region ?_
         show Sq _ _ _ [0, 1, 2, 3, 4] _ _ _ _
         refine Sq.quiet (i := 0) rfl (Want.none rfl) rfl (ltN rfl) (QP.move rfl rfl).read ?_
         refine Sq.quiet (i := 1) rfl (Want.none rfl) rfl (ltN rfl) (QR.load rfl rfl g38 (Entry.enc_sub _)) ?_
         refine Sq.eff (i := 2) rfl (Want.none rfl) rfl (ltN rfl) (EF.buildSlice1 rfl Try.underlying22 z38 zero38 (by simp [Value.cells, Entry.enc_len]) (by decide) rfl rfl (Entry.enc_len _) (by decide)) ?_
         rintro _ _ ⟨b90, rfl, rfl⟩
         refine Sq.eff (i := 3) rfl (Want.none rfl) rfl (ltN rfl) (EF.append1 (xs := _) (s := px.2) el38 Entry.enc_len Entry.enc_cell rfl rfl rfl Try.underlying22 Try.underlying22 rfl rfl (by repeat constructor) (by repeat constructor) (by first | omega | (simp <;> omega))) ?_
         rintro sl91 _ rfl
         refine Sq.quiet (i := 4) rfl (Want.none rfl) rfl (ltN rfl) (QP.assign rfl rfl).read ?_
         refine Sq.nil ?_
         have hmt : mtD d px.2 = true := by simp only [mtD, Bool.and_eq_true, decide_eq_true_eq]; exact ⟨Classical.not_not.1 c53, c57⟩
         have hfs : fstep d H px.2 = [] ++ [px.2] := by subst hHc; unfold fstep; rw [if_pos hmt]; simp only; rw [if_pos (show dlen px.2 > dlen hd from c72)]; rfl
         have hall := fstep_snoc d D E px.2
         rw [hH, hfs] at hall
         refine J.slEq (v := sl91) (by repeat constructor) hall.symm ?_
         exact J.envJ (J.keep (.cons (by repeat constructor) (.cons (by repeat constructor) (.cons (by repeat constructor) (.cons (by repeat constructor) (.cons (by repeat constructor) (.cons (by repeat constructor) (.cons (by repeat constructor) Takes.nil))))))) (hl28 (E ++ [px.2]) (todo.eraseIdx ix) (some px) (sl91) (by rw [List.append_assoc]; exact (List.Perm.append_left _ ((erase_perm hn42).map (·.2))).trans hperm) (by have h1 := (erase_perm hn42).length_eq; simp at h1; omega))) ⟨rfl, rfl, rfl, rfl, rfl, rfl, rfl, rfl, rfl, trivial⟩
        ·skip
         refine Dw.pure (i := 13) rfl (by kernel_rfl) (Want.none rfl) rfl (ltN rfl) (QP.pick_t rfl rfl rfl) ?_
         refine Dw.nil (by kernel_rfl) ?_
         refine hk37 _ _ ?_
         refine Run.cond_f rfl ?_
         refine Run.skip ?_
         refine hk36 _ _ ?_
         refine Run.seq fun k39 hk39 => ?_
         refine Run.regionD (M := [0, 1, 3, 7, 15, 31, 15, 79, 207, 463, 975, 1999, 4095, 8191]) (q := 16383) (r := 2080) (by kernel_rfl) ?_
         refine Dw.pure (i := 0) rfl (by kernel_rfl) (Want.none rfl) rfl (ltN rfl) (QP.move rfl rfl) ?_
         refine Dw.pure (i := 1) rfl (by kernel_rfl) (Want.none rfl) rfl (ltN rfl) (QP.len rfl rfl rfl Try.underlying22) ?_
         refine Dw.pure (i := 2) rfl (by kernel_rfl) (Want.none rfl) rfl (ltN rfl) (QP.eql rfl rfl rfl) ?_
         refine J.decF (by omega) ?_
         refine Dw.pure (i := 3) rfl (by kernel_rfl) (Want.none rfl) rfl (ltN rfl) (QP.move rfl rfl) ?_
         refine Dw.pure (i := 4) rfl (by kernel_rfl) (Want.yes rfl rfl rfl rfl) rfl (ltN rfl) (QP.fieldAddr rfl rfl f33_1) ?_
         refine Dw.read (i := 5) rfl (by kernel_rfl) (Want.yes rfl rfl rfl rfl) rfl (ltN rfl) (QR.load1 rfl rfl g3 (Prefix.sub_len _)) ?_
         refine Dw.pure (i := 6) rfl (by kernel_rfl) (Want.yes rfl rfl rfl rfl) rfl (ltN rfl) (QP.move rfl rfl) ?_
         refine Dw.pure (i := 7) rfl (by kernel_rfl) (Want.yes rfl rfl rfl rfl) rfl (ltN rfl) (QP.indexAddr rfl rfl rfl Try.underlying22 z38 (by first | omega | (simp <;> omega)) (by first | omega | (simp <;> omega))) ?_
         refine Dw.pure (i := 8) rfl (by kernel_rfl) (Want.yes rfl rfl rfl rfl) rfl (ltN rfl) (QP.fieldAddr rfl rfl f38_0) ?_
         refine Dw.pure (i := 9) rfl (by kernel_rfl) (Want.yes rfl rfl rfl rfl) rfl (ltN rfl) (QP.fieldAddr rfl rfl f36_0) ?_
         refine Dw.pure (i := 10) rfl (by kernel_rfl) (Want.yes rfl rfl rfl rfl) rfl (ltN rfl) (QP.fieldAddr rfl rfl f33_1) ?_
         refine Dw.read (i := 11) rfl (by kernel_rfl) (Want.yes rfl rfl rfl rfl) rfl (ltN rfl) (QR.loadSlF1 rfl rfl g3 Entry.enc_len (SlAt.own Entry.enc_len (by repeat constructor)) h0 (((Entry.sub_pair _).trans (Pair.sub_dst _)).trans (Prefix.sub_len _))) ?_
         refine Dw.pure (i := 12) rfl (by kernel_rfl) (Want.yes rfl rfl rfl rfl) rfl (ltN rfl) (QP.eql rfl rfl rfl) ?_
         refine J.caseD (fun c86 => ?_) (fun c86 => ?_)
         ·skip
          refine Dw.pure (i := 13) rfl (by kernel_rfl) (Want.none rfl) rfl (ltN rfl) (QP.pick_f rfl rfl rfl) ?_
          refine Dw.nil (by kernel_rfl) ?_
          refine hk39 _ _ ?_
          refine Run.cond_t rfl ?_
          refine Run.region ?_
          show Sq _ _ _ [0, 1, 2, 3, 4] _ _ _ _
          refine Sq.quiet (i := 0) rfl (Want.none rfl) rfl (ltN rfl) (QP.move rfl rfl).read ?_
          refine Sq.quiet (i := 1) rfl (Want.none rfl) rfl (ltN rfl) (QR.load rfl rfl g38 (Entry.enc_sub _)) ?_
          refine Sq.eff (i := 2) rfl (Want.none rfl) rfl (ltN rfl) (EF.buildSlice1 rfl Try.underlying22 z38 zero38 (by simp [Value.cells, Entry.enc_len]) (by decide) rfl rfl (Entry.enc_len _) (by decide)) ?_
          rintro _ _ ⟨b90, rfl, rfl⟩
          refine Sq.eff (i := 3) rfl (Want.none rfl) rfl (ltN rfl) (EF.append1 (xs := H) (s := px.2) el38 Entry.enc_len Entry.enc_cell rfl rfl rfl Try.underlying22 Try.underlying22 rfl rfl (by repeat constructor) (by repeat constructor) (by first | omega | (simp <;> omega))) ?_
          rintro sl91 _ rfl
          refine Sq.quiet (i := 4) rfl (Want.none rfl) rfl (ltN rfl) (QP.assign rfl rfl).read ?_
          refine Sq.nil ?_
          have hmt : mtD d px.2 = true := by simp only [mtD, Bool.and_eq_true, decide_eq_true_eq]; exact ⟨Classical.not_not.1 c53, c57⟩
          have hfs : fstep d H px.2 = H ++ [px.2] := by subst hHc; unfold fstep; rw [if_pos hmt]; simp only; rw [if_neg (show ¬ dlen px.2 > dlen hd from c72), if_pos (show dlen px.2 = dlen hd from c86)]
          have hall := fstep_snoc d D E px.2
          rw [hH, hfs] at hall
          refine J.slEq (v := sl91) (by repeat constructor) hall.symm ?_
          exact J.envJ (J.keep (.cons (by repeat constructor) (.cons (by repeat constructor) (.cons (by repeat constructor) (.cons (by repeat constructor) (.cons (by repeat constructor) (.cons (by repeat constructor) (.cons (by repeat constructor) Takes.nil))))))) (hl28 (E ++ [px.2]) (todo.eraseIdx ix) (some px) (sl91) (by rw [List.append_assoc]; exact (List.Perm.append_left _ ((erase_perm hn42).map (·.2))).trans hperm) (by have h1 := (erase_perm hn42).length_eq; simp at h1; omega))) ⟨rfl, rfl, rfl, rfl, rfl, rfl, rfl, rfl, rfl, trivial⟩
         ·skip
          refine Dw.pure (i := 13) rfl (by kernel_rfl) (Want.none rfl) rfl (ltN rfl) (QP.pick_f rfl rfl rfl) ?_
          refine Dw.nil (by kernel_rfl) ?_
          refine hk39 _ _ ?_
          refine Run.cond_f rfl ?_
          refine Run.skip ?_
          have hmt : mtD d px.2 = true := by simp only [mtD, Bool.and_eq_true, decide_eq_true_eq]; exact ⟨Classical.not_not.1 c53, c57⟩
          have hfs : fstep d H px.2 = H := by subst hHc; unfold fstep; rw [if_pos hmt]; simp only; rw [if_neg (show ¬ dlen px.2 > dlen hd from c72), if_neg (show ¬ dlen px.2 = dlen hd from c86)]
          have hall := fstep_snoc d D E px.2
          rw [hH, hfs] at hall
          refine J.slEq (v := .slice (some ⟨b0, o0, none⟩) H.length ch) (by repeat constructor) hall.symm ?_
          exact J.envJ (J.keep (.cons (by repeat constructor) (.cons (by repeat constructor) (.cons (by repeat constructor) (.cons (by repeat constructor) (.cons (by repeat constructor) (.cons (by repeat constructor) (.cons (by repeat constructor) Takes.nil))))))) (hl28 (E ++ [px.2]) (todo.eraseIdx ix) (some px) (.slice (some ⟨b0, o0, none⟩) H.length ch) (by rw [List.append_assoc]; exact (List.Perm.append_left _ ((erase_perm hn42).map (·.2))).trans hperm) (by have h1 := (erase_perm hn42).length_eq; simp at h1; omega))) ⟨rfl, rfl, rfl, rfl, rfl, rfl, rfl, rfl, rfl, trivial⟩
       ·skip
        refine Dw.pure (i := 3) rfl (by kernel_rfl) (Want.none rfl) rfl (ltN rfl) (QP.move rfl rfl) ?_
        refine Dw.skip (i := 4) rfl (by kernel_rfl) (Want.no rfl rfl rfl rfl) rfl (ltN rfl) ?_
        refine Dw.skip (i := 5) rfl (by kernel_rfl) (Want.no rfl rfl rfl rfl) rfl (ltN rfl) ?_
        refine Dw.skip (i := 6) rfl (by kernel_rfl) (Want.no rfl rfl rfl rfl) rfl (ltN rfl) ?_
        refine Dw.skip (i := 7) rfl (by kernel_rfl) (Want.no rfl rfl rfl rfl) rfl (ltN rfl) ?_
        refine Dw.skip (i := 8) rfl (by kernel_rfl) (Want.no rfl rfl rfl rfl) rfl (ltN rfl) ?_
        refine Dw.skip (i := 9) rfl (by kernel_rfl) (Want.no rfl rfl rfl rfl) rfl (ltN rfl) ?_
        refine Dw.skip (i := 10) rfl (by kernel_rfl) (Want.no rfl rfl rfl rfl) rfl (ltN rfl) ?_
        refine Dw.skip (i := 11) rfl (by kernel_rfl) (Want.no rfl rfl rfl rfl) rfl (ltN rfl) ?_
        refine Dw.skip (i := 12) rfl (by kernel_rfl) (Want.no rfl rfl rfl rfl) rfl (ltN rfl) ?_
        refine Dw.pure (i := 13) rfl (by kernel_rfl) (Want.none rfl) rfl (ltN rfl) (QP.pick_f rfl rfl rfl) ?_
        refine Dw.nil (by kernel_rfl) ?_
        refine hk37 _ _ ?_
        refine Run.cond_f rfl ?_
        refine Run.skip ?_
        refine hk36 _ _ ?_
        refine Run.seq fun k40 hk40 => ?_
        refine Run.regionD (M := [0, 1, 3, 7, 15, 31, 15, 79, 207, 463, 975, 1999, 4095, 8191]) (q := 16383) (r := 2080) (by kernel_rfl) ?_
        refine Dw.pure (i := 0) rfl (by kernel_rfl) (Want.none rfl) rfl (ltN rfl) (QP.move rfl rfl) ?_
        refine Dw.pure (i := 1) rfl (by kernel_rfl) (Want.none rfl) rfl (ltN rfl) (QP.len rfl rfl rfl Try.underlying22) ?_
        refine Dw.pure (i := 2) rfl (by kernel_rfl) (Want.none rfl) rfl (ltN rfl) (QP.eql rfl rfl rfl) ?_
        refine J.decT (by omega) ?_
        refine Dw.pure (i := 3) rfl (by kernel_rfl) (Want.none rfl) rfl (ltN rfl) (QP.move rfl rfl) ?_
        refine Dw.skip (i := 4) rfl (by kernel_rfl) (Want.no rfl rfl rfl rfl) rfl (ltN rfl) ?_
        refine Dw.skip (i := 5) rfl (by kernel_rfl) (Want.no rfl rfl rfl rfl) rfl (ltN rfl) ?_
        refine Dw.skip (i := 6) rfl (by kernel_rfl) (Want.no rfl rfl rfl rfl) rfl (ltN rfl) ?_
        refine Dw.skip (i := 7) rfl (by kernel_rfl) (Want.no rfl rfl rfl rfl) rfl (ltN rfl) ?_
        refine Dw.skip (i := 8) rfl (by kernel_rfl) (Want.no rfl rfl rfl rfl) rfl (ltN rfl) ?_
        refine Dw.skip (i := 9) rfl (by kernel_rfl) (Want.no rfl rfl rfl rfl) rfl (ltN rfl) ?_
        refine Dw.skip (i := 10) rfl (by kernel_rfl) (Want.no rfl rfl rfl rfl) rfl (ltN rfl) ?_
        refine Dw.skip (i := 11) rfl (by kernel_rfl) (Want.no rfl rfl rfl rfl) rfl (ltN rfl) ?_
        refine Dw.skip (i := 12) rfl (by kernel_rfl) (Want.no rfl rfl rfl rfl) rfl (ltN rfl) ?_
        refine Dw.pure (i := 13) rfl (by kernel_rfl) (Want.none rfl) rfl (ltN rfl) (QP.pick_t rfl rfl rfl) ?_
        refine Dw.nil (by kernel_rfl) ?_
        refine hk40 _ _ ?_
        refine Run.cond_t rfl ?_
        refine Run.region ?_
        show Sq _ _ _ [0, 1, 2, 3, 4] _ _ _ _
        refine Sq.quiet (i := 0) rfl (Want.none rfl) rfl (ltN rfl) (QP.move rfl rfl).read ?_
        refine Sq.quiet (i := 1) rfl (Want.none rfl) rfl (ltN rfl) (QR.load rfl rfl g38 (Entry.enc_sub _)) ?_
        refine Sq.eff (i := 2) rfl (Want.none rfl) rfl (ltN rfl) (EF.buildSlice1 rfl Try.underlying22 z38 zero38 (by simp [Value.cells, Entry.enc_len]) (by decide) rfl rfl (Entry.enc_len _) (by decide)) ?_
        rintro _ _ ⟨b90, rfl, rfl⟩
        refine Sq.eff (i := 3) rfl (Want.none rfl) rfl (ltN rfl) (EF.append1 (xs := H) (s := px.2) el38 Entry.enc_len Entry.enc_cell rfl rfl rfl Try.underlying22 Try.underlying22 rfl rfl (by repeat constructor) (by repeat constructor) (by first | omega | (simp <;> omega))) ?_
        rintro sl91 _ rfl
        refine Sq.quiet (i := 4) rfl (Want.none rfl) rfl (ltN rfl) (QP.assign rfl rfl).read ?_
        refine Sq.nil ?_
        have hmt : mtD d px.2 = true := by simp only [mtD, Bool.and_eq_true, decide_eq_true_eq]; exact ⟨Classical.not_not.1 c53, c57⟩
        obtain rfl : H = [] := List.eq_nil_of_length_eq_zero (by omega)
        have hfs : fstep d [] px.2 = [] ++ [px.2] := by unfold fstep; rw [if_pos hmt]; rfl
        have hall := fstep_snoc d D E px.2
        rw [hH, hfs] at hall
        refine J.slEq (v := sl91) (by repeat constructor) hall.symm ?_
        exact J.envJ (J.keep (.cons (by repeat constructor) (.cons (by repeat constructor) (.cons (by repeat constructor) (.cons (by repeat constructor) (.cons (by repeat constructor) (.cons (by repeat constructor) (.cons (by repeat constructor) Takes.nil))))))) (hl28 (E ++ [px.2]) (todo.eraseIdx ix) (some px) (sl91) (by rw [List.append_assoc]; exact (List.Perm.append_left _ ((erase_perm hn42).map (·.2))).trans hperm) (by have h1 := (erase_perm hn42).length_eq; simp at h1; omega))) ⟨rfl, rfl, rfl, rfl, rfl, rfl, rfl, rfl, rfl, trivial⟩
      ·skip
       refine Dw.pure (i := 9) rfl (by kernel_rfl) (Want.yes rfl rfl rfl rfl) rfl (ltN rfl) (QP.not rfl rfl) ?_
       refine Dw.pure (i := 10) rfl (by kernel_rfl) (Want.none rfl) rfl (ltN rfl) (QP.pick_f rfl rfl rfl) ?_
       refine Dw.nil (by kernel_rfl) ?_
       refine hk35 _ _ ?_
       refine Run.cond_t rfl ?_
       refine Run.exit rfl ?_
       have hfs : fstep d H px.2 = H := by unfold fstep; rw [if_neg (by simp only [mtD, Bool.and_eq_true]; exact fun h => by rw [c57] at h; cases h.2)]
       have hall := fstep_snoc d D E px.2
       rw [hH, hfs] at hall
       refine J.slEq (v := .slice ah H.length ch) (by repeat constructor) hall.symm ?_
       exact J.envJ (J.keep (.cons (by repeat constructor) (.cons (by repeat constructor) (.cons (by repeat constructor) (.cons (by repeat constructor) (.cons (by repeat constructor) (.cons (by repeat constructor) (.cons (by repeat constructor) Takes.nil))))))) (hl28 (E ++ [px.2]) (todo.eraseIdx ix) (some px) (.slice ah H.length ch) (by rw [List.append_assoc]; exact (List.Perm.append_left _ ((erase_perm hn42).map (·.2))).trans hperm) (by have h1 := (erase_perm hn42).length_eq; simp at h1; omega))) ⟨rfl, rfl, rfl, rfl, rfl, rfl, rfl, rfl, rfl, trivial⟩
  ·skip
   refine Sq.nil ?_
   refine hk9 _ _ ?_
   refine Run.seq fun k41 hk41 => ?_
   refine Run.cond_f rfl ?_
   refine Run.exit rfl ?_
   refine hk6 _ _ ?_
   refine Run.seq fun k42 hk42 => ?_
   refine Run.seq fun k43 hk43 => ?_
   refine Run.region ?_
   show Sq _ _ _ [0, 1, 2] _ _ _ _
   obtain rfl : i = 2 := by omega
   have hD2 : D.Perm (valsE M1 ++ valsE M2) := hD
   obtain ⟨H, hH⟩ : ∃ H, D.foldl (fstep d) [] = H := ⟨_, rfl⟩
   have hHl : H.length ≤ 200000 := by rw [← hH]; have h1 := fold_len d D []; have h2 := hD2.length_eq; simp [valsE] at h1 h2; omega
   rw [hH]
   refine Sq.slCase (v := vh) (xs := H) (by repeat constructor) (fun ah ch hvh hhh => ?_)
   subst hvh
   refine Sq.quiet (i := 0) rfl (Want.none rfl) rfl (ltN rfl) (QP.move rfl rfl).read ?_
   refine Sq.quiet (i := 1) rfl (Want.none rfl) rfl (ltN rfl) (QP.len rfl rfl rfl Try.underlying22).read ?_
   refine Sq.quiet (i := 2) rfl (Want.none rfl) rfl (ltN rfl) (QP.move rfl rfl).read ?_
   refine Sq.nil ?_
   refine hk43 _ _ ?_
   refine Run.block ?_
   refine Run.loop2 (fun (j : Nat) (bo : Entry × Bool) => j ≤ H.length ∧ bo = (H.take j).foldl (sstep s) (Entry.zero, false)) (fun j bo => .cons 4 (.pointer (some ⟨b4, 0, none⟩)) (.cons 5 (.pointer (some ⟨b5, 0, none⟩)) (.cons 6 (.pointer (some ⟨b6, 0, none⟩)) (.cons 7 (.bool bo.2) (.cons 93 (.slice ah H.length ch) (.cons 94 (.int .i64 H.length) (.cons 95 (.int .i64 j) (.nil)))))))) (fun j bo => [mapE r1 M1, mapE r2 M2, blk b4 (Bs.enc s) 30, blk b6 (Entry.enc bo.1) 38, slA 38 51 Entry.enc (.slice ah H.length ch) H]) (fun j bo => H.length - j) (0) ((Entry.zero, false)) (⟨Nat.zero_le _, rfl⟩) ?_ ?_
   ·exact fun _ j => J.envJ (J.keep (.cons (by repeat constructor) (.cons (by repeat constructor) (.cons (by repeat constructor) (.cons (by repeat constructor) (.cons (by repeat constructor) Takes.nil))))) j) ⟨rfl, rfl, rfl, rfl, rfl, rfl, rfl, trivial⟩
   rintro j bo ⟨hjl, hbo⟩ kl44 hl44
   refine Run.seq fun k45 hk45 => ?_
   refine Run.region ?_
   show Sq _ _ _ [0] _ _ _ _
   refine Sq.quiet (i := 0) rfl (Want.none rfl) rfl (ltN rfl) (QP.lss rfl rfl rfl).read ?_
   refine J.caseD (fun c96 => ?_) (fun c96 => ?_)
   ·skip
    refine Sq.nil ?_
    refine hk45 _ _ ?_
    refine Run.seq fun k46 hk46 => ?_
    refine Run.cond_t rfl ?_
    refine Run.skip ?_
    refine hk46 _ _ ?_
    refine Run.seq fun k47 hk47 => ?_
    refine Run.block ?_
    refine Run.seq fun k48 hk48 => ?_
    refine Run.region ?_
    show Sq _ _ _ [0, 1, 2, 3] _ _ _ _
    have hlt : j < H.length := by omega
    obtain ⟨e, he⟩ : ∃ e, H[j]? = some e := ⟨_, List.getElem?_eq_getElem hlt⟩
    obtain ⟨b0, o0, rfl⟩ := hhh.get (by omega)
    refine Sq.quiet (i := 0) rfl (Want.none rfl) rfl (ltN rfl) (QP.indexAddr rfl rfl rfl Try.underlying22 z38 (by first | omega | (simp <;> omega)) (by first | omega | (simp <;> omega))).read ?_
    refine Sq.quiet (i := 1) rfl (Want.none rfl) rfl (ltN rfl) (QR.loadSl rfl rfl g38 Entry.enc_len (SlAt.own Entry.enc_len (by repeat constructor)) he) ?_
    refine Sq.eff (i := 2) rfl (Want.none rfl) rfl (ltN rfl) (EF.allocA (l := Entry.enc Entry.zero) rfl zero38) ?_
    rintro _ _ ⟨b15, rfl, rfl⟩
    refine Sq.act (i := 3) rfl (Want.none rfl) rfl (EF.storeA rfl rfl rfl z38 (SetL.all (Entry.enc_len _) (Entry.enc_len _)) (Entry.enc_cell _)) ?_
    rintro _ _ rfl
    refine Sq.nil ?_
    refine hk48 _ _ ?_
    refine Run.seq fun k49 hk49 => ?_
    refine Run.region ?_
    show Sq _ _ _ [0, 1, 2, 3, 4, 5, 6, 7, 8, 9, 10, 11, 12, 13, 14, 15, 16, 17, 18, 19] _ _ _ _
    refine Sq.quiet (i := 0) rfl (Want.none rfl) rfl (ltN rfl) (QP.fieldAddr rfl rfl f38_0).read ?_
    refine Sq.quiet (i := 1) rfl (Want.none rfl) rfl (ltN rfl) (QP.fieldAddr rfl rfl f36_1).read ?_
    refine Sq.quiet (i := 2) rfl (Want.none rfl) rfl (ltN rfl) (QR.load rfl rfl g33 ((Entry.sub_pair _).trans (Pair.sub_src _))) ?_
    refine Sq.quiet (i := 3) rfl (Want.none rfl) rfl (ltN rfl) (QR.load rfl rfl g30 (Bs.sub _)) ?_
    refine Sq.eff (i := 4) rfl (Want.none rfl) rfl (ltN rfl) (EF.call rfl ce22 rfl Takes.nil (fun F' hle hr => contains_spec F' (((e).pair).src) (s))) ?_
    rintro _ _ ⟨_, ⟨rfl, rfl⟩, rfl⟩
    refine J.app ?_
    refine J.caseB (fun c103 => ?_) (fun c103 => ?_)
    ·skip
     refine Sq.quiet (i := 5) rfl (Want.none rfl) rfl (ltN rfl) (QP.move rfl rfl).read ?_
     refine Sq.quiet (i := 6) rfl (Want.yes rfl rfl rfl rfl) rfl (ltN rfl) (QP.move rfl rfl).read ?_
     refine J.caseB (fun c105 => ?_) (fun c105 => ?_)
     ·skip
      refine Sq.quiet (i := 7) rfl (Want.yes rfl rfl rfl rfl) rfl (ltN rfl) (QP.not rfl rfl).read ?_
      refine Sq.quiet (i := 8) rfl (Want.yes rfl rfl rfl rfl) rfl (ltN rfl) (QP.move rfl rfl).read ?_
      refine Sq.quiet (i := 9) rfl (Want.yes rfl rfl rfl rfl) rfl (ltN rfl) (QP.fieldAddr rfl rfl f38_0).read ?_
      refine Sq.quiet (i := 10) rfl (Want.yes rfl rfl rfl rfl) rfl (ltN rfl) (QP.fieldAddr rfl rfl f36_1).read ?_
      refine Sq.quiet (i := 11) rfl (Want.yes rfl rfl rfl rfl) rfl (ltN rfl) (QP.fieldAddr rfl rfl f33_1).read ?_
      refine Sq.quiet (i := 12) rfl (Want.yes rfl rfl rfl rfl) rfl (ltN rfl) (QR.load1 rfl rfl g3 (((Entry.sub_pair _).trans (Pair.sub_src _)).trans (Prefix.sub_len _))) ?_
      refine Sq.quiet (i := 13) rfl (Want.yes rfl rfl rfl rfl) rfl (ltN rfl) (QP.fieldAddr rfl rfl f38_0).read ?_
      refine Sq.quiet (i := 14) rfl (Want.yes rfl rfl rfl rfl) rfl (ltN rfl) (QP.fieldAddr rfl rfl f36_1).read ?_
      refine Sq.quiet (i := 15) rfl (Want.yes rfl rfl rfl rfl) rfl (ltN rfl) (QP.fieldAddr rfl rfl f33_1).read ?_
      refine Sq.quiet (i := 16) rfl (Want.yes rfl rfl rfl rfl) rfl (ltN rfl) (QR.load1 rfl rfl g3 (((Entry.sub_pair _).trans (Pair.sub_src _)).trans (Prefix.sub_len _))) ?_
      refine Sq.quiet (i := 17) rfl (Want.yes rfl rfl rfl rfl) rfl (ltN rfl) (QP.gtr rfl rfl rfl).read ?_
      refine J.caseD (fun c116 => ?_) (fun c116 => ?_)
      ·skip
       refine Sq.quiet (i := 18) rfl (Want.yes rfl rfl rfl rfl) rfl (ltN rfl) (QP.pick_f rfl rfl rfl).read ?_
       refine Sq.quiet (i := 19) rfl (Want.none rfl) rfl (ltN rfl) (QP.pick_t rfl rfl rfl).read ?_
       refine Sq.nil ?_
       refine hk49 _ _ ?_
       refine Run.cond_t rfl ?_
       refine Run.region ?_
       show Sq _ _ _ [0, 1, 2] _ _ _ _
       refine Sq.quiet (i := 0) rfl (Want.none rfl) rfl (ltN rfl) (QR.load rfl rfl g38 (Entry.enc_sub _)) ?_
       refine Sq.act (i := 1) rfl (Want.none rfl) rfl (EF.storeA rfl rfl rfl z38 (SetL.all (Entry.enc_len _) (Entry.enc_len _)) (Entry.enc_cell _)) ?_
       rintro _ _ rfl
       refine Sq.quiet (i := 2) rfl (Want.none rfl) rfl (ltN rfl) (QP.assign rfl rfl).read ?_
       refine Sq.nil ?_
       refine hk47 _ _ ?_
       refine Run.region ?_
       show Sq _ _ _ [0, 1] _ _ _ _
       have hss : sstep s bo e = (e, true) := by
         unfold sstep; rw [if_pos]; rw [c103]; simp only [Bool.true_and, Bool.or_eq_true, decide_eq_true_eq]; exact .inr c116
       refine Sq.quiet (i := 0) rfl (Want.none rfl) rfl (ltN rfl) (QP.add64 rfl rfl rfl (by first | omega | (simp <;> omega)) (by first | omega | (simp <;> omega))).read ?_
       refine Sq.quiet (i := 1) rfl (Want.none rfl) rfl (ltN rfl) (QP.move rfl rfl).read ?_
       refine Sq.nil ?_
       exact J.envJ (J.keep (.cons (by repeat constructor) (.cons (by repeat constructor) (.cons (by repeat constructor) (.cons (by repeat constructor) (.cons (by repeat constructor) Takes.nil))))) (hl44 (j + 1) ((e, true)) (⟨by omega, by rw [List.take_add_one, he, Option.toList_some, List.foldl_append, ← hbo]; exact hss.symm⟩) (by omega))) ⟨rfl, rfl, rfl, rfl, rfl, rfl, rfl, trivial⟩
      ·skip
       refine Sq.quiet (i := 18) rfl (Want.yes rfl rfl rfl rfl) rfl (ltN rfl) (QP.pick_f rfl rfl rfl).read ?_
       refine Sq.quiet (i := 19) rfl (Want.none rfl) rfl (ltN rfl) (QP.pick_t rfl rfl rfl).read ?_
       refine Sq.nil ?_
       refine hk49 _ _ ?_
       refine Run.cond_f rfl ?_
       refine Run.skip ?_
       refine hk47 _ _ ?_
       refine Run.region ?_
       show Sq _ _ _ [0, 1] _ _ _ _
       have hss : sstep s bo e = bo := by unfold sstep; rw [if_neg]; rw [c103, c105]; simp only [Bool.true_and, Bool.not_true, Bool.false_or, decide_eq_true_eq]; exact c116
       refine Sq.quiet (i := 0) rfl (Want.none rfl) rfl (ltN rfl) (QP.add64 rfl rfl rfl (by first | omega | (simp <;> omega)) (by first | omega | (simp <;> omega))).read ?_
       refine Sq.quiet (i := 1) rfl (Want.none rfl) rfl (ltN rfl) (QP.move rfl rfl).read ?_
       refine Sq.nil ?_
       exact J.envJ (J.keep (.cons (by repeat constructor) (.cons (by repeat constructor) (.cons (by repeat constructor) (.cons (by repeat constructor) (.cons (by repeat constructor) Takes.nil))))) (hl44 (j + 1) (bo) (⟨by omega, by rw [List.take_add_one, he, Option.toList_some, List.foldl_append, ← hbo]; exact hss.symm⟩) (by omega))) ⟨rfl, rfl, rfl, rfl, rfl, rfl, rfl, trivial⟩
     ·skip
      refine Sq.quiet (i := 7) rfl (Want.yes rfl rfl rfl rfl) rfl (ltN rfl) (QP.not rfl rfl).read ?_
      refine Sq.quiet (i := 8) rfl (Want.yes rfl rfl rfl rfl) rfl (ltN rfl) (QP.move rfl rfl).read ?_
      refine Sq.skip (i := 9) rfl (Want.no rfl rfl rfl rfl) rfl (ltN rfl) ?_
      refine Sq.skip (i := 10) rfl (Want.no rfl rfl rfl rfl) rfl (ltN rfl) ?_
      refine Sq.skip (i := 11) rfl (Want.no rfl rfl rfl rfl) rfl (ltN rfl) ?_
      refine Sq.skip (i := 12) rfl (Want.no rfl rfl rfl rfl) rfl (ltN rfl) ?_
      refine Sq.skip (i := 13) rfl (Want.no rfl rfl rfl rfl) rfl (ltN rfl) ?_
      refine Sq.skip (i := 14) rfl (Want.no rfl rfl rfl rfl) rfl (ltN rfl) ?_
      refine Sq.skip (i := 15) rfl (Want.no rfl rfl rfl rfl) rfl (ltN rfl) ?_
      refine Sq.skip (i := 16) rfl (Want.no rfl rfl rfl rfl) rfl (ltN rfl) ?_
      refine Sq.skip (i := 17) rfl (Want.no rfl rfl rfl rfl) rfl (ltN rfl) ?_
      refine Sq.quiet (i := 18) rfl (Want.yes rfl rfl rfl rfl) rfl (ltN rfl) (QP.pick_t rfl rfl rfl).read ?_
      refine Sq.quiet (i := 19) rfl (Want.none rfl) rfl (ltN rfl) (QP.pick_t rfl rfl rfl).read ?_
      refine Sq.nil ?_
      refine hk49 _ _ ?_
      refine Run.cond_t rfl ?_
      refine Run.region ?_
      show Sq _ _ _ [0, 1, 2] _ _ _ _
      refine Sq.quiet (i := 0) rfl (Want.none rfl) rfl (ltN rfl) (QR.load rfl rfl g38 (Entry.enc_sub _)) ?_
      refine Sq.act (i := 1) rfl (Want.none rfl) rfl (EF.storeA rfl rfl rfl z38 (SetL.all (Entry.enc_len _) (Entry.enc_len _)) (Entry.enc_cell _)) ?_
      rintro _ _ rfl
      refine Sq.quiet (i := 2) rfl (Want.none rfl) rfl (ltN rfl) (QP.assign rfl rfl).read ?_
      refine Sq.nil ?_
      refine hk47 _ _ ?_
      refine Run.region ?_
      show Sq _ _ _ [0, 1] _ _ _ _
      have hss : sstep s bo e = (e, true) := by
        unfold sstep; rw [if_pos]; rw [c103]; simp only [Bool.true_and, Bool.or_eq_true, decide_eq_true_eq]; exact .inl (by rw [c105]; rfl)
      refine Sq.quiet (i := 0) rfl (Want.none rfl) rfl (ltN rfl) (QP.add64 rfl rfl rfl (by first | omega | (simp <;> omega)) (by first | omega | (simp <;> omega))).read ?_
      refine Sq.quiet (i := 1) rfl (Want.none rfl) rfl (ltN rfl) (QP.move rfl rfl).read ?_
      refine Sq.nil ?_
      exact J.envJ (J.keep (.cons (by repeat constructor) (.cons (by repeat constructor) (.cons (by repeat constructor) (.cons (by repeat constructor) (.cons (by repeat constructor) Takes.nil))))) (hl44 (j + 1) ((e, true)) (⟨by omega, by rw [List.take_add_one, he, Option.toList_some, List.foldl_append, ← hbo]; exact hss.symm⟩) (by omega))) ⟨rfl, rfl, rfl, rfl, rfl, rfl, rfl, trivial⟩
    ·skip
     refine Sq.quiet (i := 5) rfl (Want.none rfl) rfl (ltN rfl) (QP.move rfl rfl).read ?_
     refine Sq.skip (i := 6) rfl (Want.no rfl rfl rfl rfl) rfl (ltN rfl) ?_
     refine Sq.skip (i := 7) rfl (Want.no rfl rfl rfl rfl) rfl (ltN rfl) ?_
     refine Sq.skip (i := 8) rfl (Want.no rfl rfl rfl rfl) rfl (ltN rfl) ?_
     refine Sq.skip (i := 9) rfl (Want.undef rfl rfl rfl) rfl (ltN rfl) ?_
     refine Sq.skip (i := 10) rfl (Want.undef rfl rfl rfl) rfl (ltN rfl) ?_
     refine Sq.skip (i := 11) rfl (Want.undef rfl rfl rfl) rfl (ltN rfl) ?_
     refine Sq.skip (i := 12) rfl (Want.undef rfl rfl rfl) rfl (ltN rfl) ?_
     refine Sq.skip (i := 13) rfl (Want.undef rfl rfl rfl) rfl (ltN rfl) ?_
     refine Sq.skip (i := 14) rfl (Want.undef rfl rfl rfl) rfl (ltN rfl) ?_
     refine Sq.skip (i := 15) rfl (Want.undef rfl rfl rfl) rfl (ltN rfl) ?_
     refine Sq.skip (i := 16) rfl (Want.undef rfl rfl rfl) rfl (ltN rfl) ?_
     refine Sq.skip (i := 17) rfl (Want.undef rfl rfl rfl) rfl (ltN rfl) ?_
     refine Sq.skip (i := 18) rfl (Want.no rfl rfl rfl rfl) rfl (ltN rfl) ?_
     refine Sq.quiet (i := 19) rfl (Want.none rfl) rfl (ltN rfl) (QP.pick_f rfl rfl rfl).read ?_
     refine Sq.nil ?_
     refine hk49 _ _ ?_
     refine Run.cond_f rfl ?_
     refine Run.skip ?_
     refine hk47 _ _ ?_
     refine Run.region ?_
     show Sq _ _ _ [0, 1] _ _ _ _
     have hss : sstep s bo e = bo := by unfold sstep; rw [if_neg (by rw [c103]; simp)]
     refine Sq.quiet (i := 0) rfl (Want.none rfl) rfl (ltN rfl) (QP.add64 rfl rfl rfl (by first | omega | (simp <;> omega)) (by first | omega | (simp <;> omega))).read ?_
     refine Sq.quiet (i := 1) rfl (Want.none rfl) rfl (ltN rfl) (QP.move rfl rfl).read ?_
     refine Sq.nil ?_
     exact J.envJ (J.keep (.cons (by repeat constructor) (.cons (by repeat constructor) (.cons (by repeat constructor) (.cons (by repeat constructor) (.cons (by repeat constructor) Takes.nil))))) (hl44 (j + 1) (bo) (⟨by omega, by rw [List.take_add_one, he, Option.toList_some, List.foldl_append, ← hbo]; exact hss.symm⟩) (by omega))) ⟨rfl, rfl, rfl, rfl, rfl, rfl, rfl, trivial⟩
   ·skip
    refine Sq.nil ?_
    refine hk45 _ _ ?_
    refine Run.seq fun k50 hk50 => ?_
    refine Run.cond_f rfl ?_
    refine Run.exit rfl ?_
    refine hk42 _ _ ?_
    refine Run.seq fun k51 hk51 => ?_
    refine Run.region ?_
    show Sq _ _ _ [0, 1, 2, 3] _ _ _ _
    have hall : H.take j = H := List.take_of_length_le (by omega)
    rw [hall] at hbo
    refine Sq.quiet (i := 0) rfl (Want.none rfl) rfl (ltN rfl) (QR.load rfl rfl g38 (Entry.enc_sub _)) ?_
    refine Sq.quiet (i := 1) rfl (Want.none rfl) rfl (ltN rfl) (QP.move rfl rfl).read ?_
    refine J.caseB (fun c122 => ?_) (fun c122 => ?_)
    ·skip
     refine Sq.act (i := 2) rfl (Want.none rfl) rfl (EF.storeA rfl rfl rfl z38 (SetL.all (Entry.enc_len _) (Entry.enc_len _)) (Entry.enc_cell _)) ?_
     rintro _ _ rfl
     refine Sq.quiet (i := 3) rfl (Want.none rfl) rfl (ltN rfl) (QP.assign rfl rfl).read ?_
     refine Sq.nil ?_
     refine hk51 _ _ ?_
     refine Run.ret ?_
     exact J.ends (res_cell2 rfl rfl g38 (Entry.enc_sub _) rfl) (.cons (by repeat constructor) (.cons (by repeat constructor) Takes.nil)) ⟨D, hD2, by unfold lookF; rw [if_pos (Classical.not_not.1 c23), hH, ← hbo, c122], rfl⟩
    ·skip
     refine Sq.act (i := 2) rfl (Want.none rfl) rfl (EF.storeA rfl rfl rfl z38 (SetL.all (Entry.enc_len _) (Entry.enc_len _)) (Entry.enc_cell _)) ?_
     rintro _ _ rfl
     refine Sq.quiet (i := 3) rfl (Want.none rfl) rfl (ltN rfl) (QP.assign rfl rfl).read ?_
     refine Sq.nil ?_
     refine hk51 _ _ ?_
     refine Run.ret ?_
     exact J.ends (res_cell2 rfl rfl g38 (Entry.enc_sub _) rfl) (.cons (by repeat constructor) (.cons (by repeat constructor) Takes.nil)) ⟨D, hD2, by unfold lookF; rw [if_pos (Classical.not_not.1 c23), hH, ← hbo, c122], rfl⟩

theorem find_spec (F : Fr) {a : Option Addr} {c : Nat} {L : List Entry} (hl1 : L.length ≤ 1000000) (hh : SlH a c L) (p : Pair) : Spec Try.prog 15 #[.slice a L.length c, .agg (Pair.enc p).toArray] [slA 38 51 Entry.enc (.slice a L.length c) L] F (fun v S => S = [slA 38 51 Entry.enc (.slice a L.length c) L] ∧ ∃ n : Int, v = .int .i64 n ∧ ((n = -1 ∧ ∀ e ∈ L, e.pair ≠ p) ∨ ∃ (i : Nat) (e : Entry), n = i ∧ L[i]? = some e ∧ e.pair = p)) := by
 refine Spec.intro (N := 20) (args := [.slice a L.length c, .agg (Pair.enc p).toArray]) Try.func15 rfl rfl (by simp) ?_
 refine Run.seq fun k1 hk1 => ?_
 refine Run.region ?_
 show Sq _ _ _ [0, 1] _ _ _ _
 refine Sq.eff (i := 0) rfl (Want.none rfl) rfl (ltN rfl) (EF.boxA rfl rfl) ?_
 rintro _ _ ⟨b3, rfl, rfl⟩
 refine Sq.quiet (i := 1) rfl (Want.none rfl) rfl (ltN rfl) (QP.assign rfl rfl).read ?_
 refine Sq.nil ?_
 refine hk1 _ _ ?_
 refine Run.seq fun k2 hk2 => ?_
 refine Run.seq fun k3 hk3 => ?_
 refine Run.region ?_
 show Sq _ _ _ [0] _ _ _ _
 refine Sq.quiet (i := 0) rfl (Want.none rfl) rfl (ltN rfl) (QP.assign rfl rfl).read ?_
 refine Sq.nil ?_
 refine hk3 _ _ ?_
 refine Run.block ?_
 refine Run.loop1 (fun (i : Nat) => i ≤ L.length ∧ ∀ e ∈ L.take i, e.pair ≠ p) (fun i => .cons 0 (.slice a L.length c) (.cons 3 (.pointer (some ⟨b3, 0, none⟩)) (.cons 5 (.int .i64 i) (.nil)))) (fun i => [slA 38 51 Entry.enc (.slice a L.length c) L, blk b3 (Pair.enc p) 36]) (fun i => L.length - i) (0) (⟨Nat.zero_le _, by simp⟩) ?_ ?_
 ·exact fun _ j => J.envJ (J.keep (.cons (by repeat constructor) (.cons (by repeat constructor) Takes.nil)) j) ⟨rfl, rfl, rfl, trivial⟩
 rintro i ⟨hil, hno⟩ kl4 hl4
 refine Run.seq fun k5 hk5 => ?_
 refine Run.seq fun k6 hk6 => ?_
 refine Run.region ?_
 show Sq _ _ _ [0, 1, 2, 3] _ _ _ _
 refine Sq.quiet (i := 0) rfl (Want.none rfl) rfl (ltN rfl) (QP.move rfl rfl).read ?_
 refine Sq.quiet (i := 1) rfl (Want.none rfl) rfl (ltN rfl) (QP.move rfl rfl).read ?_
 refine Sq.quiet (i := 2) rfl (Want.none rfl) rfl (ltN rfl) (QP.len rfl rfl rfl Try.underlying22).read ?_
 refine Sq.quiet (i := 3) rfl (Want.none rfl) rfl (ltN rfl) (QP.lss rfl rfl rfl).read ?_
 refine J.caseD (fun c9 => ?_) (fun c9 => ?_)
 ·skip
  refine Sq.nil ?_
  refine hk6 _ _ ?_
  refine Run.cond_t rfl ?_
  refine Run.skip ?_
  refine hk5 _ _ ?_
  refine Run.seq fun k7 hk7 => ?_
  refine Run.block ?_
  refine Run.seq fun k8 hk8 => ?_
  refine Run.regionD (M := [0, 0, 3, 7, 15, 0, 63]) (q := 127) (r := 48) (by kernel_rfl) ?_
  obtain ⟨x, hi⟩ : ∃ x, L[i]? = some x := ⟨_, List.getElem?_eq_getElem (by omega)⟩
  obtain ⟨b0, o0, rfl⟩ := hh.get (by omega)
  refine Dw.pure (i := 0) rfl (by kernel_rfl) (Want.none rfl) rfl (ltN rfl) (QP.move rfl rfl) ?_
  refine Dw.pure (i := 1) rfl (by kernel_rfl) (Want.none rfl) rfl (ltN rfl) (QP.move rfl rfl) ?_
  refine Dw.pure (i := 2) rfl (by kernel_rfl) (Want.none rfl) rfl (ltN rfl) (QP.indexAddr rfl rfl rfl Try.underlying22 z38 (by first | omega | (simp <;> omega)) (by first | omega | (simp <;> omega))) ?_
  refine Dw.pure (i := 3) rfl (by kernel_rfl) (Want.none rfl) rfl (ltN rfl) (QP.fieldAddr rfl rfl f38_0) ?_
  refine Dw.read (i := 4) rfl (by kernel_rfl) (Want.none rfl) rfl (ltN rfl) (QR.loadSlF rfl rfl g36 Entry.enc_len (SlAt.own Entry.enc_len (by repeat constructor)) hi (Entry.sub_pair _)) ?_
  refine Dw.read (i := 5) rfl (by kernel_rfl) (Want.none rfl) rfl (ltN rfl) (QR.load rfl rfl g36 (Pair.enc_sub _)) ?_
  refine Dw.pure (i := 6) rfl (by kernel_rfl) (Want.none rfl) rfl (ltN rfl) (QP.eql_agg eq36 rfl rfl rfl) ?_
  refine J.caseD (fun c18 => ?_) (fun c18 => ?_)
  ·skip
   refine Dw.nil (by kernel_rfl) ?_
   refine hk8 _ _ ?_
   refine Run.cond_t rfl ?_
   refine Run.seq fun k9 hk9 => ?_
   refine Run.region ?_
   show Sq _ _ _ [0, 1] _ _ _ _
   refine Sq.quiet (i := 0) rfl (Want.none rfl) rfl (ltN rfl) (QP.move rfl rfl).read ?_
   refine Sq.quiet (i := 1) rfl (Want.none rfl) rfl (ltN rfl) (QP.assign rfl rfl).read ?_
   refine Sq.nil ?_
   refine hk9 _ _ ?_
   refine Run.ret ?_
   exact J.ends (res_tmp rfl rfl) (.cons (by repeat constructor) Takes.nil) ⟨rfl, _, rfl, .inr ⟨i, x, rfl, hi, c18⟩⟩
  ·skip
   refine Dw.nil (by kernel_rfl) ?_
   refine hk8 _ _ ?_
   refine Run.cond_f rfl ?_
   refine Run.skip ?_
   refine hk7 _ _ ?_
   refine Run.region ?_
   show Sq _ _ _ [0, 1, 2] _ _ _ _
   refine Sq.quiet (i := 0) rfl (Want.none rfl) rfl (ltN rfl) (QP.move rfl rfl).read ?_
   refine Sq.quiet (i := 1) rfl (Want.none rfl) rfl (ltN rfl) (QP.add64 rfl rfl rfl (by first | omega | (simp <;> omega)) (by first | omega | (simp <;> omega))).read ?_
   refine Sq.quiet (i := 2) rfl (Want.none rfl) rfl (ltN rfl) (QP.assign rfl rfl).read ?_
   refine Sq.nil ?_
   exact J.envJ (J.keep (.cons (by repeat constructor) (.cons (by repeat constructor) Takes.nil)) (hl4 (i + 1) (⟨by omega, fun e he => by rw [List.take_add_one, hi] at he; rcases List.mem_append.1 he with he | he; exact hno e he; simp at he; subst he; exact c18⟩) (by omega))) ⟨rfl, rfl, rfl, trivial⟩
 ·skip
  refine Sq.nil ?_
  refine hk6 _ _ ?_
  refine Run.cond_f rfl ?_
  refine Run.exit rfl ?_
  refine hk2 _ _ ?_
  refine Run.seq fun k10 hk10 => ?_
  refine Run.region ?_
  show Sq _ _ _ [0] _ _ _ _
  refine Sq.quiet (i := 0) rfl (Want.none rfl) rfl (ltN rfl) (QP.assign rfl rfl).read ?_
  refine Sq.nil ?_
  refine hk10 _ _ ?_
  refine Run.ret ?_
  exact J.ends (res_tmp rfl rfl) (.cons (by repeat constructor) Takes.nil) ⟨rfl, _, rfl, .inl ⟨rfl, fun e he => hno e (by rw [List.take_of_length_le (by omega)]; exact he)⟩⟩

theorem sameE (F : Fr) {a a2 : Option Addr} {c c2 : Nat} {xs ys : List Entry} (h1 : SlH a c xs) (h2 : SlH a2 c2 ys) (hl1 : xs.length ≤ 1000000) (hl2 : ys.length ≤ 1000000)  : Spec Try.prog 18 #[.slice a xs.length c, .slice a2 ys.length c2] [slA 38 51 Entry.enc (.slice a xs.length c) xs, slA 38 51 Entry.enc (.slice a2 ys.length c2) ys] F (fun v S => v = .bool (decide (xs = ys)) ∧ S = [slA 38 51 Entry.enc (.slice a xs.length c) xs, slA 38 51 Entry.enc (.slice a2 ys.length c2) ys]) := by
 refine Spec.intro (N := 26) (args := [.slice a xs.length c, .slice a2 ys.length c2]) Try.func18 rfl rfl (by simp) ?_
 refine Run.seq fun k1 hk1 => ?_
 refine Run.region ?_
 show Sq _ _ _ [0] _ _ _ _
 refine Sq.quiet (i := 0) rfl (Want.none rfl) rfl (ltN rfl) (QP.assign rfl rfl).read ?_
 refine Sq.nil ?_
 refine hk1 _ _ ?_
 refine Run.seq fun k2 hk2 => ?_
 refine Run.seq fun k3 hk3 => ?_
 refine Run.region ?_
 show Sq _ _ _ [0, 1, 2, 3, 4] _ _ _ _
 refine Sq.quiet (i := 0) rfl (Want.none rfl) rfl (ltN rfl) (QP.move rfl rfl).read ?_
 refine Sq.quiet (i := 1) rfl (Want.none rfl) rfl (ltN rfl) (QP.len rfl rfl rfl Try.underlying22).read ?_
 refine Sq.quiet (i := 2) rfl (Want.none rfl) rfl (ltN rfl) (QP.move rfl rfl).read ?_
 refine Sq.quiet (i := 3) rfl (Want.none rfl) rfl (ltN rfl) (QP.len rfl rfl rfl Try.underlying22).read ?_
 refine Sq.quiet (i := 4) rfl (Want.none rfl) rfl (ltN rfl) (QP.neq rfl rfl rfl).read ?_
 refine J.caseD (fun c10 => ?_) (fun c10 => ?_)
 ·skip
  refine Sq.nil ?_
  refine hk3 _ _ ?_
  refine Run.cond_t rfl ?_
  refine Run.seq fun k4 hk4 => ?_
  refine Run.region ?_
  show Sq _ _ _ [0] _ _ _ _
  refine Sq.quiet (i := 0) rfl (Want.none rfl) rfl (ltN rfl) (QP.assign rfl rfl).read ?_
  refine Sq.nil ?_
  refine hk4 _ _ ?_
  refine Run.ret ?_
  exact J.ends (res_tmp rfl rfl) (.cons (by repeat constructor) (.cons (by repeat constructor) Takes.nil)) ⟨by rw [decide_eq_false]; intro h; subst h; exact c10 rfl, rfl⟩
 ·skip
  refine Sq.nil ?_
  refine hk3 _ _ ?_
  refine Run.cond_f rfl ?_
  refine Run.skip ?_
  refine hk2 _ _ ?_
  refine Run.seq fun k5 hk5 => ?_
  refine Run.seq fun k6 hk6 => ?_
  refine Run.region ?_
  show Sq _ _ _ [0] _ _ _ _
  refine Sq.quiet (i := 0) rfl (Want.none rfl) rfl (ltN rfl) (QP.assign rfl rfl).read ?_
  refine Sq.nil ?_
  refine hk6 _ _ ?_
  refine Run.block ?_
  refine Run.loop1 (fun (i : Nat) => i ≤ xs.length ∧ xs.length = ys.length ∧ xs.take i = ys.take i) (fun i => .cons 0 (.slice a xs.length c) (.cons 1 (.slice a2 ys.length c2) (.cons 5 (.int .i64 i) (.nil)))) (fun i => [slA 38 51 Entry.enc (.slice a xs.length c) xs, slA 38 51 Entry.enc (.slice a2 ys.length c2) ys]) (fun i => xs.length - i) (0) (⟨Nat.zero_le _, by omega, rfl⟩) ?_ ?_
  ·exact fun _ j => J.envJ (J.keep (.cons (by repeat constructor) (.cons (by repeat constructor) Takes.nil)) j) ⟨rfl, rfl, rfl, trivial⟩
  rintro i ⟨hile, hlen, heq⟩ kl7 hl7
  refine Run.seq fun k8 hk8 => ?_
  refine Run.seq fun k9 hk9 => ?_
  refine Run.region ?_
  show Sq _ _ _ [0, 1, 2, 3] _ _ _ _
  refine Sq.quiet (i := 0) rfl (Want.none rfl) rfl (ltN rfl) (QP.move rfl rfl).read ?_
  refine Sq.quiet (i := 1) rfl (Want.none rfl) rfl (ltN rfl) (QP.move rfl rfl).read ?_
  refine Sq.quiet (i := 2) rfl (Want.none rfl) rfl (ltN rfl) (QP.len rfl rfl rfl Try.underlying22).read ?_
  refine Sq.quiet (i := 3) rfl (Want.none rfl) rfl (ltN rfl) (QP.lss rfl rfl rfl).read ?_
  refine J.caseD (fun c14 => ?_) (fun c14 => ?_)
  ·skip
   refine Sq.nil ?_
   refine hk9 _ _ ?_
   refine Run.cond_t rfl ?_
   refine Run.skip ?_
   refine hk8 _ _ ?_
   refine Run.seq fun k10 hk10 => ?_
   refine Run.block ?_
   refine Run.seq fun k11 hk11 => ?_
   refine Run.regionD (M := [0, 0, 3, 7, 0, 0, 48, 112, 255]) (q := 511) (r := 136) (by kernel_rfl) ?_
   obtain ⟨x, hx⟩ : ∃ x, xs[i]? = some x := ⟨_, List.getElem?_eq_getElem (by omega)⟩
   obtain ⟨y, hy⟩ : ∃ y, ys[i]? = some y := ⟨_, List.getElem?_eq_getElem (by omega)⟩
   obtain ⟨b0, o0, rfl⟩ := h1.get (by omega)
   obtain ⟨b1, o1, rfl⟩ := h2.get (by omega)
   refine Dw.pure (i := 0) rfl (by kernel_rfl) (Want.none rfl) rfl (ltN rfl) (QP.move rfl rfl) ?_
   refine Dw.pure (i := 1) rfl (by kernel_rfl) (Want.none rfl) rfl (ltN rfl) (QP.move rfl rfl) ?_
   refine Dw.pure (i := 2) rfl (by kernel_rfl) (Want.none rfl) rfl (ltN rfl) (QP.indexAddr rfl rfl rfl Try.underlying22 z38 (by first | omega | (simp <;> omega)) (by first | omega | (simp <;> omega))) ?_
   refine Dw.read (i := 3) rfl (by kernel_rfl) (Want.none rfl) rfl (ltN rfl) (QR.loadSl rfl rfl g38 Entry.enc_len (SlAt.own Entry.enc_len (by repeat constructor)) hx) ?_
   refine Dw.pure (i := 4) rfl (by kernel_rfl) (Want.none rfl) rfl (ltN rfl) (QP.move rfl rfl) ?_
   refine Dw.pure (i := 5) rfl (by kernel_rfl) (Want.none rfl) rfl (ltN rfl) (QP.move rfl rfl) ?_
   refine Dw.pure (i := 6) rfl (by kernel_rfl) (Want.none rfl) rfl (ltN rfl) (QP.indexAddr rfl rfl rfl Try.underlying22 z38 (by first | omega | (simp <;> omega)) (by first | omega | (simp <;> omega))) ?_
   refine Dw.read (i := 7) rfl (by kernel_rfl) (Want.none rfl) rfl (ltN rfl) (QR.loadSl rfl rfl g38 Entry.enc_len (SlAt.own Entry.enc_len (by repeat constructor)) hy) ?_
   refine Dw.pure (i := 8) rfl (by kernel_rfl) (Want.none rfl) rfl (ltN rfl) (QP.neq_agg eq38 rfl rfl rfl) ?_
   refine J.caseD (fun c25 => ?_) (fun c25 => ?_)
   ·skip
    refine Dw.nil (by kernel_rfl) ?_
    refine hk11 _ _ ?_
    refine Run.cond_t rfl ?_
    refine Run.seq fun k12 hk12 => ?_
    refine Run.region ?_
    show Sq _ _ _ [0] _ _ _ _
    refine Sq.quiet (i := 0) rfl (Want.none rfl) rfl (ltN rfl) (QP.assign rfl rfl).read ?_
    refine Sq.nil ?_
    refine hk12 _ _ ?_
    refine Run.ret ?_
    exact J.ends (res_tmp rfl rfl) (.cons (by repeat constructor) (.cons (by repeat constructor) Takes.nil)) ⟨by rw [decide_eq_false]; intro h; subst h; rw [hx] at hy; cases hy; exact c25 rfl, rfl⟩
   ·skip
    refine Dw.nil (by kernel_rfl) ?_
    refine hk11 _ _ ?_
    refine Run.cond_f rfl ?_
    refine Run.skip ?_
    refine hk10 _ _ ?_
    refine Run.region ?_
    show Sq _ _ _ [0, 1, 2] _ _ _ _
    refine Sq.quiet (i := 0) rfl (Want.none rfl) rfl (ltN rfl) (QP.move rfl rfl).read ?_
    refine Sq.quiet (i := 1) rfl (Want.none rfl) rfl (ltN rfl) (QP.add64 rfl rfl rfl (by first | omega | (simp <;> omega)) (by first | omega | (simp <;> omega))).read ?_
    refine Sq.quiet (i := 2) rfl (Want.none rfl) rfl (ltN rfl) (QP.assign rfl rfl).read ?_
    refine Sq.nil ?_
    exact J.envJ (J.keep (.cons (by repeat constructor) (.cons (by repeat constructor) Takes.nil)) (hl7 (i + 1) (⟨by omega, hlen, by rw [List.take_add_one, List.take_add_one, heq, hx, hy, show x = y by simpa using c25]⟩) (by omega))) ⟨rfl, rfl, rfl, trivial⟩
  ·skip
   refine Sq.nil ?_
   refine hk9 _ _ ?_
   refine Run.cond_f rfl ?_
   refine Run.exit rfl ?_
   refine hk5 _ _ ?_
   refine Run.seq fun k13 hk13 => ?_
   refine Run.region ?_
   show Sq _ _ _ [0] _ _ _ _
   refine Sq.quiet (i := 0) rfl (Want.none rfl) rfl (ltN rfl) (QP.assign rfl rfl).read ?_
   refine Sq.nil ?_
   refine hk13 _ _ ?_
   refine Run.ret ?_
   exact J.ends (res_tmp rfl rfl) (.cons (by repeat constructor) (.cons (by repeat constructor) Takes.nil)) ⟨by rw [decide_eq_true]; rw [List.take_of_length_le (by omega), List.take_of_length_le (by omega)] at heq; exact heq, rfl⟩

theorem any4_spec (F : Fr)  : Spec Try.prog 14 #[.int .i64 4] [] F (fun v S => v = .agg (Prefix.enc ⟨⟨[0, 0, 0, 0, 0, 0, 0, 0, 0, 0, 255, 255, 0, 0, 0, 0], rfl⟩, ⟨96, by omega⟩⟩).toArray ∧ S = []) := by
 refine Spec.intro (N := 8) (args := [.int .i64 4]) Try.func14 rfl rfl (by simp) ?_
 refine Run.seq fun k1 hk1 => ?_
 refine Run.region ?_
 show Sq _ _ _ [0] _ _ _ _
 refine Sq.eff (i := 0) rfl (Want.none rfl) rfl (ltN rfl) (EF.allocA (l := Prefix.enc Prefix.zero) rfl zero33) ?_
 rintro _ _ ⟨b2, rfl, rfl⟩
 refine Sq.nil ?_
 refine hk1 _ _ ?_
 refine Run.seq fun k2 hk2 => ?_
 refine Run.seq fun k3 hk3 => ?_
 refine Run.region ?_
 show Sq _ _ _ [0, 1] _ _ _ _
 refine Sq.quiet (i := 0) rfl (Want.none rfl) rfl (ltN rfl) (QP.move rfl rfl).read ?_
 refine Sq.quiet (i := 1) rfl (Want.none rfl) rfl (ltN rfl) (QP.eql rfl rfl rfl).read ?_
 refine Sq.nil ?_
 refine hk3 _ _ ?_
 refine Run.cond_t rfl ?_
 refine Run.seq fun k4 hk4 => ?_
 refine Run.region ?_
 show Sq _ _ _ [0, 1, 2] _ _ _ _
 refine Sq.quiet (i := 0) rfl (Want.none rfl) rfl (ltN rfl) (QP.const (.agg (Bs.enc (⟨[0, 0, 0, 0, 0, 0, 0, 0, 0, 0, 255, 255, 0, 0, 0, 0], rfl⟩ : Bs 16)).toArray) (fun _ _ => by kernel_rfl)).read ?_
 refine Sq.quiet (i := 1) rfl (Want.none rfl) rfl (ltN rfl) (QP.build (l := Prefix.enc ⟨((⟨[0, 0, 0, 0, 0, 0, 0, 0, 0, 0, 255, 255, 0, 0, 0, 0], rfl⟩ : Bs 16)), (⟨96, by omega⟩ : I64)⟩) rfl st33 rfl (by exact ⟨(congrArg some (Bs.len _).symm), ⟨rfl, trivial⟩⟩) rfl).read ?_
 refine Sq.act (i := 2) rfl (Want.none rfl) rfl (EF.storeA rfl rfl rfl z33 (SetL.all (Prefix.enc_len _) (Prefix.enc_len _)) (Prefix.enc_cell _)) ?_
 rintro _ _ rfl
 refine Sq.nil ?_
 refine hk4 _ _ ?_
 refine Run.ret ?_
 exact J.ends (res_cell rfl rfl g33 (Prefix.enc_sub _)) Takes.nil ⟨rfl, rfl⟩

def addr4 (w x y z : UInt8) : Bs 16 := ⟨[0, 0, 0, 0, 0, 0, 0, 0, 0, 0, 255, 255, w, x, y, z], rfl⟩

theorem func4_spec (F : Fr) (w x y z : UInt8) : Spec Try.prog 13 #[.int .u8 (w.toNat : Int), .int .u8 (x.toNat : Int), .int .u8 (y.toNat : Int), .int .u8 (z.toNat : Int)] [] F (fun v S => v = .agg (Bs.enc (addr4 w x y z)).toArray ∧ S = []) := by
 refine Spec.intro (N := 14) (args := [.int .u8 (w.toNat : Int), .int .u8 (x.toNat : Int), .int .u8 (y.toNat : Int), .int .u8 (z.toNat : Int)]) Try.func13 rfl rfl (by simp) ?_
 refine Run.seq fun k1 hk1 => ?_
 refine Run.region ?_
 show Sq _ _ _ [0] _ _ _ _
 refine Sq.eff (i := 0) rfl (Want.none rfl) rfl (ltN rfl) (EF.allocA (l := (Bs.zero 16).enc) rfl zero30) ?_
 rintro _ _ ⟨b8, rfl, rfl⟩
 refine Sq.nil ?_
 refine hk1 _ _ ?_
 refine Run.seq fun k2 hk2 => ?_
 refine Run.region ?_
 show Sq _ _ _ [0, 1, 2, 3, 4, 5] _ _ _ _
 refine Sq.quiet (i := 0) rfl (Want.none rfl) rfl (ltN rfl) (QP.move rfl rfl).read ?_
 refine Sq.quiet (i := 1) rfl (Want.none rfl) rfl (ltN rfl) (QP.move rfl rfl).read ?_
 refine Sq.quiet (i := 2) rfl (Want.none rfl) rfl (ltN rfl) (QP.move rfl rfl).read ?_
 refine Sq.quiet (i := 3) rfl (Want.none rfl) rfl (ltN rfl) (QP.move rfl rfl).read ?_
 refine Sq.quiet (i := 4) rfl (Want.none rfl) rfl (ltN rfl) (QP.buildArr (l := Bs.enc (addr4 w x y z)) rfl Try.underlying30 z5 zero30 rfl rfl).read ?_
 refine Sq.act (i := 5) rfl (Want.none rfl) rfl (EF.storeA rfl rfl rfl z30 (SetL.all (Bs.len _) (Bs.len _)) (Bs.cell _)) ?_
 rintro _ _ rfl
 refine Sq.nil ?_
 refine hk2 _ _ ?_
 refine Run.ret ?_
 exact J.ends (res_cell rfl rfl g30 (Bs.sub _)) Takes.nil ⟨rfl, rfl⟩
end Slb
