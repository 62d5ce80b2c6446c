/- K20: a part of the proof that a law of this package holds for every input; no condition. -/
import Derived.Test.YtgcjmamfbcmccaaK19
import Derived.Test.YtgcjmamfbcmccaaB23
namespace Slb
open Go Go.Proofs
set_option maxRecDepth 20000
theorem copy_spec (F : Fr) {b r1 r2 : Nat} {n : Int} {M1 M2 : TabE} : Spec Try.prog 26 #[.pointer (some ⟨b, 0, none⟩)] [blk b (KernelKernel.enc ⟨some r1, some r2, n⟩) 64, mapE r1 M1, mapE r2 M2] F (fun v S => ∃ b2 r3 r4, v = .pointer (some ⟨b2, 0, none⟩) ∧ S = [blk b2 (KernelKernel.enc ⟨some r3, some r4, n⟩) 64, mapE r3 M1, mapE r4 M2, blk b (KernelKernel.enc ⟨some r1, some r2, n⟩) 64, mapE r1 M1, mapE r2 M2]) := by
 refine Spec.intro (N := 21) (args := [.pointer (some ⟨b, 0, none⟩)]) Try.func26 rfl rfl (by simp) ?_
 refine Run.seq fun k1 hk1 => ?_
 refine Run.region ?_
 show Sq _ _ _ [0] _ _ _ _
 refine Sq.quiet (i := 0) rfl (Want.none rfl) rfl (ltN rfl) (QP.assign rfl rfl).read ?_
 refine Sq.nil ?_
 refine hk1 _ _ ?_
 refine Run.seq fun k2 hk2 => ?_
 refine Run.seq fun k3 hk3 => ?_
 refine Run.region ?_
 show Sq _ _ _ [0, 1] _ _ _ _
 refine Sq.quiet (i := 0) rfl (Want.none rfl) rfl (ltN rfl) (QP.move rfl rfl).read ?_
 refine Sq.quiet (i := 1) rfl (Want.none rfl) rfl (ltN rfl) (QP.ptr_eq_nil rfl rfl rfl Try.underlying24).read ?_
 refine Sq.nil ?_
 refine hk3 _ _ ?_
 refine Run.cond_f rfl ?_
 refine Run.skip ?_
 refine hk2 _ _ ?_
 refine Run.seq fun k4 hk4 => ?_
 refine Run.regionD (M := [0, 1, 3, 7, 15, 0, 32, 96, 224, 511, 0, 1024, 3072, 7168, 16383, 32767, 65535]) (q := 32239) (r := 8456) (by kernel_rfl) ?_
 refine Dw.pure (i := 0) rfl (by kernel_rfl) (Want.none rfl) rfl (ltN rfl) (QP.move rfl rfl) ?_
 refine Dw.pure (i := 1) rfl (by kernel_rfl) (Want.none rfl) rfl (ltN rfl) (QP.nilCheck rfl rfl) ?_
 refine Dw.pure (i := 2) rfl (by kernel_rfl) (Want.none rfl) rfl (ltN rfl) (QP.fieldAddr rfl rfl f64_0) ?_
 refine Dw.read (i := 3) rfl (by kernel_rfl) (Want.none rfl) rfl (ltN rfl) (QR.load1 rfl rfl g62 (KernelKernel.sub_own _)) ?_
 refine Dw.pure (i := 5) rfl (by kernel_rfl) (Want.none rfl) rfl (ltN rfl) (QP.move rfl rfl) ?_
 refine Dw.pure (i := 6) rfl (by kernel_rfl) (Want.none rfl) rfl (ltN rfl) (QP.nilCheck rfl rfl) ?_
 refine Dw.pure (i := 7) rfl (by kernel_rfl) (Want.none rfl) rfl (ltN rfl) (QP.fieldAddr rfl rfl f64_1) ?_
 refine Dw.read (i := 8) rfl (by kernel_rfl) (Want.none rfl) rfl (ltN rfl) (QR.load1 rfl rfl g62 (KernelKernel.sub_others _)) ?_
 refine Dw.pure (i := 10) rfl (by kernel_rfl) (Want.none rfl) rfl (ltN rfl) (QP.move rfl rfl) ?_
 refine Dw.pure (i := 11) rfl (by kernel_rfl) (Want.none rfl) rfl (ltN rfl) (QP.nilCheck rfl rfl) ?_
 refine Dw.pure (i := 12) rfl (by kernel_rfl) (Want.none rfl) rfl (ltN rfl) (QP.fieldAddr rfl rfl f64_2) ?_
 refine Dw.read (i := 13) rfl (by kernel_rfl) (Want.none rfl) rfl (ltN rfl) (QR.load1 rfl rfl g3 (KernelKernel.sub_fails _)) ?_
 refine Dw.eff (i := 4) (by kernel_rfl) (by kernel_rfl) ?_
 refine One.mk (o := _) (l := [13, 8]) rfl (by kernel_rfl) (Want.none rfl) rfl (ltN rfl) (EF.call rfl ce34 rfl (.cons (by repeat constructor) Takes.nil) (fun F' hle hr => clone_spec F')) (by kernel_rfl) ?_
 rintro _ _ ⟨_, ⟨r9, rfl, rfl⟩, rfl⟩
 refine ⟨?_, ?_⟩
 ·rw [List.forall_mem_cons, List.forall_mem_cons]
  refine ⟨?_, ?_, fun _ h => (by cases h)⟩
  ·refine Look.app ?_
   exact Look.mk rfl rfl rfl (QR.load1 rfl rfl g3 (KernelKernel.sub_fails _))
  ·refine Look.app ?_
   exact Look.mk rfl rfl rfl (QR.load1 rfl rfl g62 (KernelKernel.sub_others _))
 refine ?_
 refine J.app ?_
 refine Dw.eff (i := 9) (by kernel_rfl) (by kernel_rfl) ?_
 refine One.mk (o := _) (l := [13]) rfl (by kernel_rfl) (Want.none rfl) rfl (ltN rfl) (EF.call rfl ce34 rfl (.cons (by repeat constructor) Takes.nil) (fun F' hle hr => clone_spec F')) (by kernel_rfl) ?_
 rintro _ _ ⟨_, ⟨r14, rfl, rfl⟩, rfl⟩
 refine ⟨?_, ?_⟩
 ·rw [List.forall_mem_cons]
  refine ⟨?_, fun _ h => (by cases h)⟩
  ·refine Look.app ?_
   exact Look.mk rfl rfl rfl (QR.load1 rfl rfl g3 (KernelKernel.sub_fails _))
 refine ?_
 refine J.app ?_
 refine Dw.pure (i := 14) rfl (by kernel_rfl) (Want.none rfl) rfl (ltN rfl) (QP.build (l := KernelKernel.enc ⟨_, _, _⟩) rfl st64 rfl (by exact ⟨rfl, ⟨rfl, ⟨rfl, trivial⟩⟩⟩) rfl) ?_
 refine Dw.eff (i := 15) (by kernel_rfl) (by kernel_rfl) ?_
 refine One.mk (o := _) (l := []) rfl (by kernel_rfl) (Want.none rfl) rfl (ltN rfl) (EF.boxA rfl rfl) (by kernel_rfl) ?_
 rintro _ _ ⟨b20, rfl, rfl⟩
 refine ⟨fun _ h => (by cases h), ?_⟩
 refine Dw.eff (i := 16) (by kernel_rfl) (by kernel_rfl) ?_
 refine One.mk (o := _) (l := []) rfl (by kernel_rfl) (Want.none rfl) rfl (ltN rfl) ((QP.assign rfl rfl).eff) (by kernel_rfl) ?_
 rintro _ _ ⟨rfl, rfl⟩
 refine ⟨fun _ h => (by cases h), ?_⟩
 refine Dw.nil (by kernel_rfl) ?_
 refine hk4 _ _ ?_
 refine Run.ret ?_
 exact J.ends (res_tmp rfl rfl) (.cons (by repeat constructor) (.cons (by repeat constructor) (.cons (by repeat constructor) (.cons (by repeat constructor) (.cons (by repeat constructor) (.cons (by repeat constructor) Takes.nil)))))) ⟨_, _, _, rfl, rfl⟩

theorem copyA (F : Fr) {b : Nat} {s : KS} : Spec Try.prog 26 #[fp b] [KerA b s] F (fun v S => ∃ b2, v = fp b2 ∧ S = [KerA b2 s, KerA b s]) := by
  refine Spec.open kerA_open fun ⟨r1, r2⟩ => ?_
  refine Spec.post (copy_spec F) ?_
  rintro v _ w ⟨b2, r3, r4, e, rfl⟩ s1
  refine ⟨_, ⟨b2, e, rfl⟩, ?_⟩
  have s2 : Sat [KerA b2 s, blk b (KernelKernel.enc ⟨some r1, some r2, s.n⟩) 64, mapE r1 s.M1, mapE r2 s.M2] F w := Sat.pack (m := KerL b2 s (r3, r4)) (r := [blk b (KernelKernel.enc ⟨some r1, some r2, s.n⟩) 64, mapE r1 s.M1, mapE r2 s.M2]) s1 kerA_mk
  have s3 : Sat (KerL b s (r1, r2) ++ [KerA b2 s]) F w := s2.perm (List.perm_append_comm (l₁ := [KerA b2 s]) (l₂ := [blk b (KernelKernel.enc ⟨some r1, some r2, s.n⟩) 64, mapE r1 s.M1, mapE r2 s.M2]))
  exact (Sat.pack s3 kerA_mk).perm (List.Perm.swap _ _ _)
structure RXk where
  al : Option Addr
  cl : Nat
  ai : Option Addr
  ci : Nat
structure RQk (s : KS) (rx : RXk) : Prop where
  l : SlH rx.al rx.cl (ordL s.M1)
  i : SlH rx.ai rx.ci (ordL s.M2)
theorem RQk.new : RQk ⟨0, [], []⟩ ⟨none, 0, none, 0⟩ := ⟨by show SlH none 0 (ordL []); rw [ordL_nil]; exact .inl ⟨rfl, rfl, rfl⟩, by show SlH none 0 (ordL []); rw [ordL_nil]; exact .inl ⟨rfl, rfl, rfl⟩⟩
theorem KOk.lens {s : KS} {i : Nat} (h : KOk s i) (hi : i ≤ 1000) : (ordL s.M1).length ≤ 100000 ∧ (ordL s.M2).length ≤ 100000 := by
  rw [h.h1.ordL.length, h.h2.ordL.length]
  exact ⟨Nat.le_trans h.l1 (by omega), Nat.le_trans h.l2 (by omega)⟩
theorem imp_count (M1 M2 : TabE) (e : Entry) : ((([e, e].foldl (impK M1) M2).length : Nat) : Int) - M2.length = if impOk M1 M2 e then 1 else 0 := by
  simp only [List.foldl_cons, List.foldl_nil, impK_twice]
  have := impK_len M1 M2 e
  split at this <;> rename_i h <;> simp [h] <;> omega

set_option maxHeartbeats 4000000 in
theorem law_plays (F : Fr) {a : Option Addr} {c : Nat} {xs : List Law20Act} (hc : xs.length ≤ 9223372036854775807) (ha : ArgSl F a 86 Law20Act.enc xs) (hw : ∀ x ∈ xs, x.WF)  : Spec Try.prog 6 #[.slice a xs.length c] [] F (fun v S => v = .bool true ∧ S = []) := by
 refine Spec.intro (N := 161) (args := [.slice a xs.length c]) Try.func6 rfl rfl (by simp) ?_
 refine Run.seq fun k1 hk1 => ?_
 refine Run.region ?_
 show Sq _ _ _ [0] _ _ _ _
 refine Sq.quiet (i := 0) rfl (Want.none rfl) rfl (ltN rfl) (QP.assign rfl rfl).read ?_
 refine Sq.nil ?_
 refine hk1 _ _ ?_
 refine Run.seq fun k2 hk2 => ?_
 refine Run.seq fun k3 hk3 => ?_
 refine Run.region ?_
 show Sq _ _ _ [0, 1, 2] _ _ _ _
 refine Sq.quiet (i := 0) rfl (Want.none rfl) rfl (ltN rfl) (QP.move rfl rfl).read ?_
 refine Sq.quiet (i := 1) rfl (Want.none rfl) rfl (ltN rfl) (QP.len rfl rfl rfl Try.underlying52).read ?_
 refine Sq.quiet (i := 2) rfl (Want.none rfl) rfl (ltN rfl) (QP.gtr rfl rfl rfl).read ?_
 refine J.caseD (fun c15 => ?_) (fun c15 => ?_)
 ·skip
  refine Sq.nil ?_
  refine hk3 _ _ ?_
  refine Run.cond_t rfl ?_
  refine Run.seq fun k4 hk4 => ?_
  refine Run.region ?_
  show Sq _ _ _ [0, 1] _ _ _ _
  refine Sq.eff (i := 0) rfl (Want.none rfl) rfl (ltN rfl) (EF.call rfl ce8 rfl Takes.nil (fun F' hle hr => live_spec F')) ?_
  rintro _ _ ⟨_, ⟨rfl, rfl⟩, rfl⟩
  refine J.app ?_
  refine Sq.quiet (i := 1) rfl (Want.none rfl) rfl (ltN rfl) (QP.assign rfl rfl).read ?_
  refine Sq.nil ?_
  refine hk4 _ _ ?_
  refine Run.ret ?_
  exact J.ends (res_tmp rfl rfl) Takes.nil ⟨rfl, rfl⟩
 ·skip
  refine Sq.nil ?_
  refine hk3 _ _ ?_
  refine Run.cond_f rfl ?_
  refine Run.skip ?_
  refine hk2 _ _ ?_
  refine Run.seq fun k5 hk5 => ?_
  refine Run.region ?_
  show Sq _ _ _ [0, 1] _ _ _ _
  refine Sq.eff (i := 0) rfl (Want.none rfl) rfl (ltN rfl) (EF.call rfl ce9 rfl Takes.nil (fun F' hle hr => newKA F')) ?_
  rintro _ _ ⟨_, ⟨kb, rfl, rfl⟩, rfl⟩
  refine J.app ?_
  refine Sq.quiet (i := 1) rfl (Want.none rfl) rfl (ltN rfl) (QP.assign rfl rfl).read ?_
  refine Sq.nil ?_
  refine hk5 _ _ ?_
  refine Run.seq fun k6 hk6 => ?_
  refine Run.region ?_
  show Sq _ _ _ [0, 1, 2] _ _ _ _
  refine Sq.quiet (i := 0) rfl (Want.none rfl) rfl (ltN rfl) (QP.build (l := Ref20Kernel.enc Ref20Kernel.zero) rfl st55 rfl (by exact trivial) rfl).read ?_
  refine Sq.eff (i := 1) rfl (Want.none rfl) rfl (ltN rfl) (EF.boxA rfl rfl) ?_
  rintro _ _ ⟨b19, rfl, rfl⟩
  refine Sq.quiet (i := 2) rfl (Want.none rfl) rfl (ltN rfl) (QP.assign rfl rfl).read ?_
  refine Sq.nil ?_
  refine hk6 _ _ ?_
  refine Run.seq fun k7 hk7 => ?_
  refine Run.seq fun k8 hk8 => ?_
  refine Run.region ?_
  show Sq _ _ _ [0, 1] _ _ _ _
  refine Sq.quiet (i := 0) rfl (Want.none rfl) rfl (ltN rfl) (QP.move rfl rfl).read ?_
  refine Sq.quiet (i := 1) rfl (Want.none rfl) rfl (ltN rfl) (QP.ptr_eq_nil rfl rfl rfl Try.underlying24).read ?_
  refine Sq.nil ?_
  refine hk8 _ _ ?_
  refine Run.cond_f rfl ?_
  refine Run.skip ?_
  refine hk7 _ _ ?_
  refine Run.seq fun k9 hk9 => ?_
  refine Run.seq fun k10 hk10 => ?_
  refine Run.region ?_
  show Sq _ _ _ [0] _ _ _ _
  have hz0 : (ordL []).length = 0 := by rw [ordL_nil]; rfl
  refine J.addSl 38 51 Entry.enc ?_
  refine J.addSl 38 51 Entry.enc ?_
  rw [show slA 38 51 Entry.enc (.slice none 0 0) [] = slA 38 51 Entry.enc (.slice none (ordL []).length 0) (ordL []) by rw [ordL_nil]; rfl, show Ref20Kernel.enc Ref20Kernel.zero = Ref20Kernel.enc ⟨⟨none, (ordL []).length, 0⟩, ⟨none, (ordL []).length, 0⟩, 0⟩ by rw [ordL_nil]; rfl]
  refine Sq.quiet (i := 0) rfl (Want.none rfl) rfl (ltN rfl) (QP.assign rfl rfl).read ?_
  refine Sq.nil ?_
  refine hk10 _ _ ?_
  refine Run.block ?_
  refine Run.loop3 (fun (i : Nat) (s : KS) (rx : RXk) => i ≤ xs.length ∧ KOk s i ∧ RQk s rx) (fun i s rx => .cons 0 (.slice a xs.length c) (.cons 3 (fp kb) (.cons 4 (fp b19) (.cons 5 (.int .i64 i) (.nil))))) (fun i s rx => [KerA kb s, blk b19 (Ref20Kernel.enc ⟨⟨rx.al, (ordL s.M1).length, rx.cl⟩, ⟨rx.ai, (ordL s.M2).length, rx.ci⟩, s.n⟩) 55, slA 38 51 Entry.enc (.slice rx.al (ordL s.M1).length rx.cl) (ordL s.M1), slA 38 51 Entry.enc (.slice rx.ai (ordL s.M2).length rx.ci) (ordL s.M2)]) (fun i s rx => xs.length - i) (0) (⟨0, [], []⟩) (⟨none, 0, none, 0⟩) (⟨Nat.zero_le _, KOk.new, RQk.new⟩) ?_ ?_
  ·exact fun _ j => J.envJ (J.keep (.cons (by repeat constructor) (.cons (by repeat constructor) (.cons (by repeat constructor) (.cons (by repeat constructor) Takes.nil)))) j) ⟨rfl, rfl, rfl, rfl, trivial⟩
  rintro i s rx ⟨hile, hok, hq⟩ kl11 hl11
  refine Run.seq fun k12 hk12 => ?_
  refine Run.seq fun k13 hk13 => ?_
  refine Run.region ?_
  show Sq _ _ _ [0, 1, 2, 3] _ _ _ _
  refine Sq.quiet (i := 0) rfl (Want.none rfl) rfl (ltN rfl) (QP.move rfl rfl).read ?_
  refine Sq.quiet (i := 1) rfl (Want.none rfl) rfl (ltN rfl) (QP.move rfl rfl).read ?_
  refine Sq.quiet (i := 2) rfl (Want.none rfl) rfl (ltN rfl) (QP.len rfl rfl rfl Try.underlying52).read ?_
  refine Sq.quiet (i := 3) rfl (Want.none rfl) rfl (ltN rfl) (QP.lss rfl rfl rfl).read ?_
  refine J.caseD (fun c25 => ?_) (fun c25 => ?_)
  ·skip
   refine Sq.nil ?_
   refine hk13 _ _ ?_
   refine Run.cond_t rfl ?_
   refine Run.skip ?_
   refine hk12 _ _ ?_
   refine Run.seq fun k14 hk14 => ?_
   refine Run.block ?_
   refine Run.seq fun k15 hk15 => ?_
   refine Run.region ?_
   show Sq _ _ _ [0, 1, 2, 3, 4, 5] _ _ _ _
   have hlt : i < xs.length := by omega
   obtain ⟨x, hi⟩ : ∃ x, xs[i]? = some x := ⟨_, List.getElem?_eq_getElem hlt⟩
   obtain ⟨b0, o0, rfl, hs0⟩ := ha.get (by omega)
   have hxw := hw x (List.mem_of_getElem? hi)
   have hxn : x.n ≤ 9223372036854775807 := hxw.2.2.1.2
   refine Sq.quiet (i := 0) rfl (Want.none rfl) rfl (ltN rfl) (QP.move rfl rfl).read ?_
   refine Sq.quiet (i := 1) rfl (Want.none rfl) rfl (ltN rfl) (QP.move rfl rfl).read ?_
   refine Sq.quiet (i := 2) rfl (Want.none rfl) rfl (ltN rfl) (QP.indexAddr rfl rfl rfl Try.underlying52 z57 (by first | omega | (simp <;> omega)) (by first | omega | (simp <;> omega))).read ?_
   refine Sq.quiet (i := 3) rfl (Want.none rfl) rfl (ltN rfl) (QR.loadSl rfl rfl g57 Law20Act.enc_len (hs0 _) hi) ?_
   refine Sq.eff (i := 4) rfl (Want.none rfl) rfl (ltN rfl) (EF.allocA (l := Law20Act.enc Law20Act.zero) rfl zero57) ?_
   rintro _ _ ⟨b6, rfl, rfl⟩
   refine Sq.act (i := 5) rfl (Want.none rfl) rfl (EF.storeA rfl rfl rfl z57 (SetL.all (Law20Act.enc_len _) (Law20Act.enc_len _)) (Law20Act.enc_cell _)) ?_
   rintro _ _ rfl
   refine Sq.nil ?_
   refine hk15 _ _ ?_
   refine Run.seq fun k16 hk16 => ?_
   refine Run.region ?_
   show Sq _ _ _ [0] _ _ _ _
   refine Sq.quiet (i := 0) rfl (Want.none rfl) rfl (ltN rfl) (QP.assign rfl rfl).read ?_
   refine Sq.nil ?_
   refine hk16 _ _ ?_
   refine Run.seq fun k17 hk17 => ?_
   refine Run.seq fun k18 hk18 => ?_
   refine Run.region ?_
   show Sq _ _ _ [0, 1] _ _ _ _
   refine Sq.quiet (i := 0) rfl (Want.none rfl) rfl (ltN rfl) (QP.fieldAddr rfl rfl f57_0).read ?_
   refine Sq.quiet (i := 1) rfl (Want.none rfl) rfl (ltN rfl) (QR.load1 rfl rfl g3 (Law20Act.sub_kind _)) ?_
   refine Sq.nil ?_
   refine hk18 _ _ ?_
   refine Run.block ?_
   refine Run.seq fun k19 hk19 => ?_
   refine Run.region ?_
   show Sq _ _ _ [0, 1] _ _ _ _
   refine Sq.quiet (i := 0) rfl (Want.none rfl) rfl (ltN rfl) (QP.eql rfl rfl rfl).read ?_
   refine J.caseD (fun c35 => ?_) (fun c35 => ?_)
   ·skip
    refine Sq.quiet (i := 1) rfl (Want.none rfl) rfl (ltN rfl) (QP.assign rfl rfl).read ?_
    refine Sq.nil ?_
    refine hk19 _ _ ?_
    refine Run.cond_t rfl ?_
    refine Run.regionD (M := [0, 0, 2, 7, 0, 0, 32, 127, 255, 511]) (q := 375) (r := 68) (by kernel_rfl) ?_
    refine Dw.pure (i := 0) rfl (by kernel_rfl) (Want.none rfl) rfl (ltN rfl) (QP.move rfl rfl) ?_
    refine Dw.pure (i := 1) rfl (by kernel_rfl) (Want.none rfl) rfl (ltN rfl) (QP.fieldAddr rfl rfl f57_1) ?_
    refine Dw.read (i := 2) rfl (by kernel_rfl) (Want.none rfl) rfl (ltN rfl) (QR.load rfl rfl g42 (Law20Act.sub_op _)) ?_
    refine Dw.pure (i := 4) rfl (by kernel_rfl) (Want.none rfl) rfl (ltN rfl) (QP.move rfl rfl) ?_
    refine Dw.pure (i := 5) rfl (by kernel_rfl) (Want.none rfl) rfl (ltN rfl) (QP.fieldAddr rfl rfl f57_1) ?_
    refine Dw.read (i := 6) rfl (by kernel_rfl) (Want.none rfl) rfl (ltN rfl) (QR.load rfl rfl g42 (Law20Act.sub_op _)) ?_
    refine Dw.eff (i := 3) (by kernel_rfl) (by kernel_rfl) ?_
    refine One.mk (o := _) (l := [6]) rfl (by kernel_rfl) (Want.none rfl) rfl (ltN rfl) (EF.call rfl ce16 rfl (.cons (by repeat constructor) Takes.nil) (fun F' hle hr => doA F' ⟨hok.n0, hok.n1⟩ x.op)) (by kernel_rfl) ?_
    rintro _ _ ⟨_, ⟨rfl, rfl⟩, rfl⟩
    refine ⟨?_, ?_⟩
    ·rw [List.forall_mem_cons]
     refine ⟨?_, fun _ h => (by cases h)⟩
     ·refine Look.app ?_
      exact Look.mk rfl rfl rfl (QR.load rfl rfl g42 (Law20Act.sub_op _))
    refine ?_
    refine J.app ?_
    refine Dw.eff (i := 7) (by kernel_rfl) (by kernel_rfl) ?_
    refine One.mk (o := _) (l := []) rfl (by kernel_rfl) (Want.none rfl) rfl (ltN rfl) (EF.call rfl ce24 rfl (.cons (by repeat constructor) (.cons (by repeat constructor) (.cons (by repeat constructor) Takes.nil))) (fun F' hle hr => rdo_spec F' hok.h1.ordL hok.h2.ordL hq.l hq.i (hok.lens (by omega)).1 (hok.lens (by omega)).2 ⟨hok.n0, hok.n1⟩ x.op)) (by kernel_rfl) ?_
    rintro _ _ ⟨_, ⟨a2, c2, L3, rfl, hh3, ho3, rfl⟩, rfl⟩
    refine ⟨fun _ h => (by cases h), ?_⟩
    refine J.app ?_
    obtain rfl := ordL_eq ho3
    refine Dw.pure (i := 8) rfl (by kernel_rfl) (Want.none rfl) rfl (ltN rfl) (QP.eqlB rfl rfl rfl Try.underlying4) ?_
    refine J.boolT (by simp) ?_
    refine Dw.eff (i := 9) (by kernel_rfl) (by kernel_rfl) ?_
    refine One.mk (o := _) (l := []) rfl (by kernel_rfl) (Want.none rfl) rfl (ltN rfl) ((QP.assign rfl rfl).eff) (by kernel_rfl) ?_
    rintro _ _ ⟨rfl, rfl⟩
    refine ⟨fun _ h => (by cases h), ?_⟩
    refine Dw.nil (by kernel_rfl) ?_
    refine hk17 _ _ ?_
    refine Run.seq fun k20 hk20 => ?_
    refine Run.region ?_
    show Sq _ _ _ [0, 1, 2, 3, 4, 5, 6, 7, 8, 9, 10, 11] _ _ _ _
    have hok2 : KOk (⟨(doK s.n s.M1 s.M2 x.op).2.1, (doK s.n s.M1 s.M2 x.op).2.2, s.M2⟩ : KS) (i + 1) := hok.act x.op
    have hq2 : RQk (⟨(doK s.n s.M1 s.M2 x.op).2.1, (doK s.n s.M1 s.M2 x.op).2.2, s.M2⟩ : KS) (⟨a2, c2, rx.ai, rx.ci⟩ : RXk) := ⟨hh3, hq.i⟩
    have l1 : (ordL (doK s.n s.M1 s.M2 x.op).2.2).length ≤ 100000 := (hok2.lens (by omega)).1
    have l2 : (ordL s.M2).length ≤ 100000 := (hok2.lens (by omega)).2
    refine Sq.quiet (i := 0) rfl (Want.none rfl) rfl (ltN rfl) (QP.move rfl rfl).read ?_
    refine Sq.quiet (i := 1) rfl (Want.none rfl) rfl (ltN rfl) (QP.fieldAddr rfl rfl f57_3).read ?_
    refine Sq.quiet (i := 2) rfl (Want.none rfl) rfl (ltN rfl) (QR.load rfl rfl g30 (Law20Act.sub_src _)) ?_
    refine Sq.quiet (i := 3) rfl (Want.none rfl) rfl (ltN rfl) (QP.fieldAddr rfl rfl f57_4).read ?_
    refine Sq.quiet (i := 4) rfl (Want.none rfl) rfl (ltN rfl) (QR.load rfl rfl g30 (Law20Act.sub_dst _)) ?_
    refine Sq.eff (i := 5) rfl (Want.none rfl) rfl (ltN rfl) (EF.call rfl ce19 rfl (.cons (by repeat constructor) Takes.nil) (fun F' hle hr => lookA F' hok2 (by omega) x.src x.dst)) ?_
    rintro _ _ ⟨_, ⟨D, hD, rfl, rfl⟩, rfl⟩
    refine J.app ?_
    refine Sq.quiet (i := 6) rfl (Want.none rfl) rfl (ltN rfl) (QP.move rfl rfl).read ?_
    refine Sq.quiet (i := 7) rfl (Want.none rfl) rfl (ltN rfl) (QP.extract rfl rfl rfl).read ?_
    refine Sq.quiet (i := 8) rfl (Want.none rfl) rfl (ltN rfl) (QP.extract rfl rfl rfl).read ?_
    refine Sq.eff (i := 9) rfl (Want.none rfl) rfl (ltN rfl) (EF.allocA (l := Entry.enc Entry.zero) rfl zero38) ?_
    rintro _ _ ⟨b9, rfl, rfl⟩
    refine Sq.act (i := 10) rfl (Want.none rfl) rfl (EF.storeA rfl rfl rfl z38 (SetL.all (Entry.enc_len _) (Entry.enc_len _)) (Entry.enc_cell _)) ?_
    rintro _ _ rfl
    refine Sq.quiet (i := 11) rfl (Want.none rfl) rfl (ltN rfl) (QP.assign rfl rfl).read ?_
    refine Sq.nil ?_
    refine hk20 _ _ ?_
    refine Run.seq fun k21 hk21 => ?_
    refine Run.region ?_
    show Sq _ _ _ [0, 1, 2, 3, 4, 5, 6, 7, 8, 9, 10, 11] _ _ _ _
    refine Sq.quiet (i := 0) rfl (Want.none rfl) rfl (ltN rfl) (QP.move rfl rfl).read ?_
    refine Sq.quiet (i := 1) rfl (Want.none rfl) rfl (ltN rfl) (QP.fieldAddr rfl rfl f57_3).read ?_
    refine Sq.quiet (i := 2) rfl (Want.none rfl) rfl (ltN rfl) (QR.load rfl rfl g30 (Law20Act.sub_src _)) ?_
    refine Sq.quiet (i := 3) rfl (Want.none rfl) rfl (ltN rfl) (QP.fieldAddr rfl rfl f57_4).read ?_
    refine Sq.quiet (i := 4) rfl (Want.none rfl) rfl (ltN rfl) (QR.load rfl rfl g30 (Law20Act.sub_dst _)) ?_
    refine Sq.eff (i := 5) rfl (Want.none rfl) rfl (ltN rfl) (EF.call rfl ce27 rfl (.cons (by repeat constructor) (.cons (by repeat constructor) (.cons (by repeat constructor) Takes.nil))) (fun F' hle hr => rlookup_spec F' hok2.h1.ordL hok2.h2.ordL hq2.l hq2.i l1 l2 x.src x.dst)) ?_
    rintro _ _ ⟨_, ⟨r, rfl, hbest, rfl⟩, rfl⟩
    refine J.app ?_
    obtain rfl := look_same hok2 hD hbest
    refine Sq.quiet (i := 6) rfl (Want.none rfl) rfl (ltN rfl) (QP.move rfl rfl).read ?_
    refine Sq.quiet (i := 7) rfl (Want.none rfl) rfl (ltN rfl) (QP.extract rfl rfl rfl).read ?_
    refine Sq.quiet (i := 8) rfl (Want.none rfl) rfl (ltN rfl) (QP.extract rfl rfl rfl).read ?_
    refine Sq.eff (i := 9) rfl (Want.none rfl) rfl (ltN rfl) (EF.allocA (l := Entry.enc Entry.zero) rfl zero38) ?_
    rintro _ _ ⟨b11, rfl, rfl⟩
    refine Sq.act (i := 10) rfl (Want.none rfl) rfl (EF.storeA rfl rfl rfl z38 (SetL.all (Entry.enc_len _) (Entry.enc_len _)) (Entry.enc_cell _)) ?_
    rintro _ _ rfl
    refine Sq.quiet (i := 11) rfl (Want.none rfl) rfl (ltN rfl) (QP.assign rfl rfl).read ?_
    refine Sq.nil ?_
    refine hk21 _ _ ?_
    refine Run.seq fun k22 hk22 => ?_
    refine Run.regionD (M := [0, 1, 3, 7, 7, 31, 63, 127, 255, 255, 1023, 2047, 4095, 8191, 16383, 8191, 40959, 106495, 237567, 524287, 1048575, 2097151, 4194303, 8388607, 16777215, 8388607, 41943039, 109051903, 243269631, 536870911, 1073741823, 2147483647]) (q := 3740778495) (r := 268697624) (by kernel_rfl) ?_
    refine Dw.pure (i := 0) rfl (by kernel_rfl) (Want.none rfl) rfl (ltN rfl) (QP.move rfl rfl) ?_
    refine Dw.pure (i := 1) rfl (by kernel_rfl) (Want.none rfl) rfl (ltN rfl) (QP.not rfl rfl) ?_
    refine Dw.pure (i := 2) rfl (by kernel_rfl) (Want.none rfl) rfl (ltN rfl) (QP.move rfl rfl) ?_
    refine Dw.read (i := 3) rfl (by kernel_rfl) (Want.yes rfl rfl rfl rfl) rfl (ltN rfl) (QR.load rfl rfl g38 (Entry.enc_sub _)) ?_
    refine Dw.read (i := 4) rfl (by kernel_rfl) (Want.yes rfl rfl rfl rfl) rfl (ltN rfl) (QR.load rfl rfl g38 (Entry.enc_sub _)) ?_
    refine Dw.pure (i := 5) rfl (by kernel_rfl) (Want.yes rfl rfl rfl rfl) rfl (ltN rfl) (QP.neq_agg eq38 rfl rfl rfl) ?_
    refine J.decF (by simp) ?_
    refine Dw.pure (i := 6) rfl (by kernel_rfl) (Want.none rfl) rfl (ltN rfl) (QP.pick_f rfl rfl rfl) ?_
    refine Dw.pure (i := 7) rfl (by kernel_rfl) (Want.none rfl) rfl (ltN rfl) (QP.move rfl rfl) ?_
    refine Dw.pure (i := 8) rfl (by kernel_rfl) (Want.yes rfl rfl rfl rfl) rfl (ltN rfl) (QP.move rfl rfl) ?_
    refine Dw.pure (i := 9) rfl (by kernel_rfl) (Want.yes rfl rfl rfl rfl) rfl (ltN rfl) (QP.move rfl rfl) ?_
    refine Dw.pure (i := 10) rfl (by kernel_rfl) (Want.yes rfl rfl rfl rfl) rfl (ltN rfl) (QP.neqB rfl rfl rfl Try.underlying4) ?_
    refine J.boolF (by simp) ?_
    refine Dw.pure (i := 11) rfl (by kernel_rfl) (Want.none rfl) rfl (ltN rfl) (QP.pick_f rfl rfl rfl) ?_
    refine Dw.pure (i := 12) rfl (by kernel_rfl) (Want.none rfl) rfl (ltN rfl) (QP.move rfl rfl) ?_
    refine Dw.pure (i := 13) rfl (by kernel_rfl) (Want.yes rfl rfl rfl rfl) rfl (ltN rfl) (QP.move rfl rfl) ?_
    refine Dw.pure (i := 15) rfl (by kernel_rfl) (Want.yes rfl rfl rfl rfl) rfl (ltN rfl) (QP.move rfl rfl) ?_
    refine Dw.pure (i := 16) rfl (by kernel_rfl) (Want.yes rfl rfl rfl rfl) rfl (ltN rfl) (QP.nilCheck rfl rfl) ?_
    refine Dw.pure (i := 17) rfl (by kernel_rfl) (Want.yes rfl rfl rfl rfl) rfl (ltN rfl) (QP.fieldAddr rfl rfl f55_0) ?_
    refine Dw.read (i := 18) rfl (by kernel_rfl) (Want.yes rfl rfl rfl rfl) rfl (ltN rfl) (QR.load1 (v := .slice _ (ordL (doK s.n s.M1 s.M2 x.op).2.2).length _) rfl rfl g22 (Ref20Kernel.sub_l _)) ?_
    refine Dw.eff (i := 14) (by kernel_rfl) (by kernel_rfl) ?_
    refine One.mk (o := _) (l := [18]) rfl (by kernel_rfl) (Want.yes rfl rfl rfl rfl) rfl (ltN rfl) (EF.call rfl ce17 rfl (.cons (by repeat constructor) Takes.nil) (fun F' hle hr => listA F' hok2 (by omega))) (by kernel_rfl) ?_
    rintro v142 _ ⟨_, rfl, rfl⟩
    refine ⟨?_, ?_⟩
    ·rw [List.forall_mem_cons]
     refine ⟨?_, fun _ h => (by cases h)⟩
     ·refine Look.app ?_
      exact Look.mk rfl rfl rfl (QR.load1 (v := .slice _ (ordL (doK s.n s.M1 s.M2 x.op).2.2).length _) rfl rfl g22 (Ref20Kernel.sub_l _))
    refine ?_
    refine J.app ?_
    refine Dw.slCase (v := v142) (xs := ordL (doK s.n s.M1 s.M2 x.op).2.2) (by repeat constructor) (fun a142 c142 hv142 hh142 => ?_)
    subst hv142
    refine Dw.eff (i := 19) (by kernel_rfl) (by kernel_rfl) ?_
    refine One.mk (o := _) (l := []) rfl (by kernel_rfl) (Want.yes rfl rfl rfl rfl) rfl (ltN rfl) (EF.call rfl ce18 rfl (.cons (by repeat constructor) (.cons (by repeat constructor) Takes.nil)) (fun F' hle hr => sameE F' hh142 hq2.l (by omega) (by omega))) (by kernel_rfl) ?_
    rintro _ _ ⟨_, ⟨rfl, rfl⟩, rfl⟩
    refine ⟨fun _ h => (by cases h), ?_⟩
    refine J.app ?_
    refine J.boolT (decide_eq_true rfl) ?_
    refine Dw.pure (i := 20) rfl (by kernel_rfl) (Want.yes rfl rfl rfl rfl) rfl (ltN rfl) (QP.not rfl rfl) ?_
    refine Dw.pure (i := 21) rfl (by kernel_rfl) (Want.none rfl) rfl (ltN rfl) (QP.pick_f rfl rfl rfl) ?_
    refine Dw.pure (i := 22) rfl (by kernel_rfl) (Want.none rfl) rfl (ltN rfl) (QP.move rfl rfl) ?_
    refine Dw.pure (i := 23) rfl (by kernel_rfl) (Want.yes rfl rfl rfl rfl) rfl (ltN rfl) (QP.move rfl rfl) ?_
    refine Dw.pure (i := 25) rfl (by kernel_rfl) (Want.yes rfl rfl rfl rfl) rfl (ltN rfl) (QP.move rfl rfl) ?_
    refine Dw.pure (i := 26) rfl (by kernel_rfl) (Want.yes rfl rfl rfl rfl) rfl (ltN rfl) (QP.nilCheck rfl rfl) ?_
    refine Dw.pure (i := 27) rfl (by kernel_rfl) (Want.yes rfl rfl rfl rfl) rfl (ltN rfl) (QP.fieldAddr rfl rfl f55_1) ?_
    refine Dw.read (i := 28) rfl (by kernel_rfl) (Want.yes rfl rfl rfl rfl) rfl (ltN rfl) (QR.load1 (v := .slice _ (ordL s.M2).length _) rfl rfl g22 (Ref20Kernel.sub_i _)) ?_
    refine Dw.eff (i := 24) (by kernel_rfl) (by kernel_rfl) ?_
    refine One.mk (o := _) (l := [28]) rfl (by kernel_rfl) (Want.yes rfl rfl rfl rfl) rfl (ltN rfl) (EF.call rfl ce11 rfl (.cons (by repeat constructor) Takes.nil) (fun F' hle hr => importedA F' hok2 (by omega))) (by kernel_rfl) ?_
    rintro v152 _ ⟨_, rfl, rfl⟩
    refine ⟨?_, ?_⟩
    ·rw [List.forall_mem_cons]
     refine ⟨?_, fun _ h => (by cases h)⟩
     ·refine Look.app ?_
      exact Look.mk rfl rfl rfl (QR.load1 (v := .slice _ (ordL s.M2).length _) rfl rfl g22 (Ref20Kernel.sub_i _))
    refine ?_
    refine J.app ?_
    refine Dw.slCase (v := v152) (xs := ordL s.M2) (by repeat constructor) (fun a152 c152 hv152 hh152 => ?_)
    subst hv152
    refine Dw.eff (i := 29) (by kernel_rfl) (by kernel_rfl) ?_
    refine One.mk (o := _) (l := []) rfl (by kernel_rfl) (Want.yes rfl rfl rfl rfl) rfl (ltN rfl) (EF.call rfl ce18 rfl (.cons (by repeat constructor) (.cons (by repeat constructor) Takes.nil)) (fun F' hle hr => sameE F' hh152 hq2.i (by omega) (by omega))) (by kernel_rfl) ?_
    rintro _ _ ⟨_, ⟨rfl, rfl⟩, rfl⟩
    refine ⟨fun _ h => (by cases h), ?_⟩
    refine J.app ?_
    refine J.boolT (decide_eq_true rfl) ?_
    refine Dw.pure (i := 30) rfl (by kernel_rfl) (Want.yes rfl rfl rfl rfl) rfl (ltN rfl) (QP.not rfl rfl) ?_
    refine Dw.pure (i := 31) rfl (by kernel_rfl) (Want.none rfl) rfl (ltN rfl) (QP.pick_f rfl rfl rfl) ?_
    refine Dw.nil (by kernel_rfl) ?_
    refine hk22 _ _ ?_
    refine Run.cond_f rfl ?_
    refine Run.skip ?_
    refine hk14 _ _ ?_
    refine Run.region ?_
    show Sq _ _ _ [0, 1, 2] _ _ _ _
    refine Sq.quiet (i := 0) rfl (Want.none rfl) rfl (ltN rfl) (QP.move rfl rfl).read ?_
    refine Sq.quiet (i := 1) rfl (Want.none rfl) rfl (ltN rfl) (QP.add64 rfl rfl rfl (by first | omega | (simp <;> omega)) (by first | omega | (simp <;> omega))).read ?_
    refine Sq.quiet (i := 2) rfl (Want.none rfl) rfl (ltN rfl) (QP.assign rfl rfl).read ?_
    refine Sq.nil ?_
    exact J.envJ (J.keep (.cons (by repeat constructor) (.cons (by repeat constructor) (.cons (by repeat constructor) (.cons (by repeat constructor) Takes.nil)))) (hl11 (i + 1) ((⟨(doK s.n s.M1 s.M2 x.op).2.1, (doK s.n s.M1 s.M2 x.op).2.2, s.M2⟩ : KS)) ((⟨a2, c2, rx.ai, rx.ci⟩ : RXk)) (⟨by omega, hok2, hq2⟩) (by omega))) ⟨rfl, rfl, rfl, rfl, trivial⟩
   ·skip
    refine Sq.quiet (i := 1) rfl (Want.none rfl) rfl (ltN rfl) (QP.assign rfl rfl).read ?_
    refine Sq.nil ?_
    refine hk19 _ _ ?_
    refine Run.cond_f rfl ?_
    refine Run.seq fun k23 hk23 => ?_
    refine Run.region ?_
    show Sq _ _ _ [0, 1] _ _ _ _
    refine Sq.quiet (i := 0) rfl (Want.none rfl) rfl (ltN rfl) (QP.eql rfl rfl rfl).read ?_
    refine J.caseD (fun c46 => ?_) (fun c46 => ?_)
    ·skip
     refine Sq.quiet (i := 1) rfl (Want.none rfl) rfl (ltN rfl) (QP.assign rfl rfl).read ?_
     refine Sq.nil ?_
     refine hk23 _ _ ?_
     refine Run.cond_t rfl ?_
     refine Run.seq fun k24 hk24 => ?_
     refine Run.region ?_
     show Sq _ _ _ [0, 1, 2, 3] _ _ _ _
     refine Sq.quiet (i := 0) rfl (Want.none rfl) rfl (ltN rfl) (QP.move rfl rfl).read ?_
     refine Sq.quiet (i := 1) rfl (Want.none rfl) rfl (ltN rfl) (QP.fieldAddr rfl rfl f57_2).read ?_
     refine Sq.quiet (i := 2) rfl (Want.none rfl) rfl (ltN rfl) (QR.load1 rfl rfl g3 (Law20Act.sub_n _)) ?_
     refine Sq.eff (i := 3) rfl (Want.none rfl) rfl (ltN rfl) (EF.call rfl ce12 rfl (.cons (by repeat constructor) Takes.nil) (fun F' hle hr => failA F' x.n)) ?_
     rintro _ _ ⟨_, ⟨rfl, rfl⟩, rfl⟩
     refine J.app ?_
     refine Sq.nil ?_
     refine hk24 _ _ ?_
     refine Run.region ?_
     show Sq _ _ _ [0, 1, 2, 3, 4, 5, 6] _ _ _ _
     refine Sq.quiet (i := 0) rfl (Want.none rfl) rfl (ltN rfl) (QP.move rfl rfl).read ?_
     refine Sq.quiet (i := 1) rfl (Want.none rfl) rfl (ltN rfl) (QP.fieldAddr rfl rfl f57_2).read ?_
     refine Sq.quiet (i := 2) rfl (Want.none rfl) rfl (ltN rfl) (QR.load1 rfl rfl g3 (Law20Act.sub_n _)) ?_
     refine Sq.quiet (i := 3) rfl (Want.none rfl) rfl (ltN rfl) (QP.max2 rfl rfl rfl).read ?_
     refine Sq.quiet (i := 4) rfl (Want.none rfl) rfl (ltN rfl) (QP.nilCheck rfl rfl).read ?_
     refine Sq.quiet (i := 5) rfl (Want.none rfl) rfl (ltN rfl) (QP.fieldAddr rfl rfl f55_2).read ?_
     refine Sq.act (i := 6) rfl (Want.none rfl) rfl (EF.store rfl rfl rfl z3 (Ref20Kernel.set_n _ _) (cell_one rfl)) ?_
     rintro _ _ rfl
     refine Sq.nil ?_
     refine hk17 _ _ ?_
     refine Run.seq fun k25 hk25 => ?_
     refine Run.region ?_
     show Sq _ _ _ [0, 1, 2, 3, 4, 5, 6, 7, 8, 9, 10, 11] _ _ _ _
     have hok2 : KOk (⟨(if 0 > x.n then 0 else x.n), s.M1, s.M2⟩ : KS) (i + 1) := (hok.fail hxn).mono (Nat.le_succ i)
     have hq2 : RQk (⟨(if 0 > x.n then 0 else x.n), s.M1, s.M2⟩ : KS) (⟨rx.al, rx.cl, rx.ai, rx.ci⟩ : RXk) := ⟨hq.l, hq.i⟩
     have l1 : (ordL s.M1).length ≤ 100000 := (hok2.lens (by omega)).1
     have l2 : (ordL s.M2).length ≤ 100000 := (hok2.lens (by omega)).2
     refine Sq.quiet (i := 0) rfl (Want.none rfl) rfl (ltN rfl) (QP.move rfl rfl).read ?_
     refine Sq.quiet (i := 1) rfl (Want.none rfl) rfl (ltN rfl) (QP.fieldAddr rfl rfl f57_3).read ?_
     refine Sq.quiet (i := 2) rfl (Want.none rfl) rfl (ltN rfl) (QR.load rfl rfl g30 (Law20Act.sub_src _)) ?_
     refine Sq.quiet (i := 3) rfl (Want.none rfl) rfl (ltN rfl) (QP.fieldAddr rfl rfl f57_4).read ?_
     refine Sq.quiet (i := 4) rfl (Want.none rfl) rfl (ltN rfl) (QR.load rfl rfl g30 (Law20Act.sub_dst _)) ?_
     refine Sq.eff (i := 5) rfl (Want.none rfl) rfl (ltN rfl) (EF.call rfl ce19 rfl (.cons (by repeat constructor) Takes.nil) (fun F' hle hr => lookA F' hok2 (by omega) x.src x.dst)) ?_
     rintro _ _ ⟨_, ⟨D, hD, rfl, rfl⟩, rfl⟩
     refine J.app ?_
     refine Sq.quiet (i := 6) rfl (Want.none rfl) rfl (ltN rfl) (QP.move rfl rfl).read ?_
     refine Sq.quiet (i := 7) rfl (Want.none rfl) rfl (ltN rfl) (QP.extract rfl rfl rfl).read ?_
     refine Sq.quiet (i := 8) rfl (Want.none rfl) rfl (ltN rfl) (QP.extract rfl rfl rfl).read ?_
     refine Sq.eff (i := 9) rfl (Want.none rfl) rfl (ltN rfl) (EF.allocA (l := Entry.enc Entry.zero) rfl zero38) ?_
     rintro _ _ ⟨b9, rfl, rfl⟩
     refine Sq.act (i := 10) rfl (Want.none rfl) rfl (EF.storeA rfl rfl rfl z38 (SetL.all (Entry.enc_len _) (Entry.enc_len _)) (Entry.enc_cell _)) ?_
     rintro _ _ rfl
     refine Sq.quiet (i := 11) rfl (Want.none rfl) rfl (ltN rfl) (QP.assign rfl rfl).read ?_
     refine Sq.nil ?_
     refine hk25 _ _ ?_
     refine Run.seq fun k26 hk26 => ?_
     refine Run.region ?_
     show Sq _ _ _ [0, 1, 2, 3, 4, 5, 6, 7, 8, 9, 10, 11] _ _ _ _
     refine Sq.quiet (i := 0) rfl (Want.none rfl) rfl (ltN rfl) (QP.move rfl rfl).read ?_
     refine Sq.quiet (i := 1) rfl (Want.none rfl) rfl (ltN rfl) (QP.fieldAddr rfl rfl f57_3).read ?_
     refine Sq.quiet (i := 2) rfl (Want.none rfl) rfl (ltN rfl) (QR.load rfl rfl g30 (Law20Act.sub_src _)) ?_
     refine Sq.quiet (i := 3) rfl (Want.none rfl) rfl (ltN rfl) (QP.fieldAddr rfl rfl f57_4).read ?_
     refine Sq.quiet (i := 4) rfl (Want.none rfl) rfl (ltN rfl) (QR.load rfl rfl g30 (Law20Act.sub_dst _)) ?_
     refine Sq.eff (i := 5) rfl (Want.none rfl) rfl (ltN rfl) (EF.call rfl ce27 rfl (.cons (by repeat constructor) (.cons (by repeat constructor) (.cons (by repeat constructor) Takes.nil))) (fun F' hle hr => rlookup_spec F' hok2.h1.ordL hok2.h2.ordL hq2.l hq2.i l1 l2 x.src x.dst)) ?_
     rintro _ _ ⟨_, ⟨r, rfl, hbest, rfl⟩, rfl⟩
     refine J.app ?_
     obtain rfl := look_same hok2 hD hbest
     refine Sq.quiet (i := 6) rfl (Want.none rfl) rfl (ltN rfl) (QP.move rfl rfl).read ?_
     refine Sq.quiet (i := 7) rfl (Want.none rfl) rfl (ltN rfl) (QP.extract rfl rfl rfl).read ?_
     refine Sq.quiet (i := 8) rfl (Want.none rfl) rfl (ltN rfl) (QP.extract rfl rfl rfl).read ?_
     refine Sq.eff (i := 9) rfl (Want.none rfl) rfl (ltN rfl) (EF.allocA (l := Entry.enc Entry.zero) rfl zero38) ?_
     rintro _ _ ⟨b11, rfl, rfl⟩
     refine Sq.act (i := 10) rfl (Want.none rfl) rfl (EF.storeA rfl rfl rfl z38 (SetL.all (Entry.enc_len _) (Entry.enc_len _)) (Entry.enc_cell _)) ?_
     rintro _ _ rfl
     refine Sq.quiet (i := 11) rfl (Want.none rfl) rfl (ltN rfl) (QP.assign rfl rfl).read ?_
     refine Sq.nil ?_
     refine hk26 _ _ ?_
     refine Run.seq fun k27 hk27 => ?_
     refine Run.regionD (M := [0, 1, 3, 7, 7, 31, 63, 127, 255, 255, 1023, 2047, 4095, 8191, 16383, 8191, 40959, 106495, 237567, 524287, 1048575, 2097151, 4194303, 8388607, 16777215, 8388607, 41943039, 109051903, 243269631, 536870911, 1073741823, 2147483647]) (q := 3740778495) (r := 268697624) (by kernel_rfl) ?_
     refine Dw.pure (i := 0) rfl (by kernel_rfl) (Want.none rfl) rfl (ltN rfl) (QP.move rfl rfl) ?_
     refine Dw.pure (i := 1) rfl (by kernel_rfl) (Want.none rfl) rfl (ltN rfl) (QP.not rfl rfl) ?_
     refine Dw.pure (i := 2) rfl (by kernel_rfl) (Want.none rfl) rfl (ltN rfl) (QP.move rfl rfl) ?_
     refine Dw.read (i := 3) rfl (by kernel_rfl) (Want.yes rfl rfl rfl rfl) rfl (ltN rfl) (QR.load rfl rfl g38 (Entry.enc_sub _)) ?_
     refine Dw.read (i := 4) rfl (by kernel_rfl) (Want.yes rfl rfl rfl rfl) rfl (ltN rfl) (QR.load rfl rfl g38 (Entry.enc_sub _)) ?_
     refine Dw.pure (i := 5) rfl (by kernel_rfl) (Want.yes rfl rfl rfl rfl) rfl (ltN rfl) (QP.neq_agg eq38 rfl rfl rfl) ?_
     refine J.decF (by simp) ?_
     refine Dw.pure (i := 6) rfl (by kernel_rfl) (Want.none rfl) rfl (ltN rfl) (QP.pick_f rfl rfl rfl) ?_
     refine Dw.pure (i := 7) rfl (by kernel_rfl) (Want.none rfl) rfl (ltN rfl) (QP.move rfl rfl) ?_
     refine Dw.pure (i := 8) rfl (by kernel_rfl) (Want.yes rfl rfl rfl rfl) rfl (ltN rfl) (QP.move rfl rfl) ?_
     refine Dw.pure (i := 9) rfl (by kernel_rfl) (Want.yes rfl rfl rfl rfl) rfl (ltN rfl) (QP.move rfl rfl) ?_
     refine Dw.pure (i := 10) rfl (by kernel_rfl) (Want.yes rfl rfl rfl rfl) rfl (ltN rfl) (QP.neqB rfl rfl rfl Try.underlying4) ?_
     refine J.boolF (by simp) ?_
     refine Dw.pure (i := 11) rfl (by kernel_rfl) (Want.none rfl) rfl (ltN rfl) (QP.pick_f rfl rfl rfl) ?_
     refine Dw.pure (i := 12) rfl (by kernel_rfl) (Want.none rfl) rfl (ltN rfl) (QP.move rfl rfl) ?_
     refine Dw.pure (i := 13) rfl (by kernel_rfl) (Want.yes rfl rfl rfl rfl) rfl (ltN rfl) (QP.move rfl rfl) ?_
     refine Dw.pure (i := 15) rfl (by kernel_rfl) (Want.yes rfl rfl rfl rfl) rfl (ltN rfl) (QP.move rfl rfl) ?_
     refine Dw.pure (i := 16) rfl (by kernel_rfl) (Want.yes rfl rfl rfl rfl) rfl (ltN rfl) (QP.nilCheck rfl rfl) ?_
     refine Dw.pure (i := 17) rfl (by kernel_rfl) (Want.yes rfl rfl rfl rfl) rfl (ltN rfl) (QP.fieldAddr rfl rfl f55_0) ?_
     refine Dw.read (i := 18) rfl (by kernel_rfl) (Want.yes rfl rfl rfl rfl) rfl (ltN rfl) (QR.load1 (v := .slice _ (ordL s.M1).length _) rfl rfl g22 (Ref20Kernel.sub_l _)) ?_
     refine Dw.eff (i := 14) (by kernel_rfl) (by kernel_rfl) ?_
     refine One.mk (o := _) (l := [18]) rfl (by kernel_rfl) (Want.yes rfl rfl rfl rfl) rfl (ltN rfl) (EF.call rfl ce17 rfl (.cons (by repeat constructor) Takes.nil) (fun F' hle hr => listA F' hok2 (by omega))) (by kernel_rfl) ?_
     rintro v142 _ ⟨_, rfl, rfl⟩
     refine ⟨?_, ?_⟩
     ·rw [List.forall_mem_cons]
      refine ⟨?_, fun _ h => (by cases h)⟩
      ·refine Look.app ?_
       exact Look.mk rfl rfl rfl (QR.load1 (v := .slice _ (ordL s.M1).length _) rfl rfl g22 (Ref20Kernel.sub_l _))
     refine ?_
     refine J.app ?_
     refine Dw.slCase (v := v142) (xs := ordL s.M1) (by repeat constructor) (fun a142 c142 hv142 hh142 => ?_)
     subst hv142
     refine Dw.eff (i := 19) (by kernel_rfl) (by kernel_rfl) ?_
     refine One.mk (o := _) (l := []) rfl (by kernel_rfl) (Want.yes rfl rfl rfl rfl) rfl (ltN rfl) (EF.call rfl ce18 rfl (.cons (by repeat constructor) (.cons (by repeat constructor) Takes.nil)) (fun F' hle hr => sameE F' hh142 hq2.l (by omega) (by omega))) (by kernel_rfl) ?_
     rintro _ _ ⟨_, ⟨rfl, rfl⟩, rfl⟩
     refine ⟨fun _ h => (by cases h), ?_⟩
     refine J.app ?_
     refine J.boolT (decide_eq_true rfl) ?_
     refine Dw.pure (i := 20) rfl (by kernel_rfl) (Want.yes rfl rfl rfl rfl) rfl (ltN rfl) (QP.not rfl rfl) ?_
     refine Dw.pure (i := 21) rfl (by kernel_rfl) (Want.none rfl) rfl (ltN rfl) (QP.pick_f rfl rfl rfl) ?_
     refine Dw.pure (i := 22) rfl (by kernel_rfl) (Want.none rfl) rfl (ltN rfl) (QP.move rfl rfl) ?_
     refine Dw.pure (i := 23) rfl (by kernel_rfl) (Want.yes rfl rfl rfl rfl) rfl (ltN rfl) (QP.move rfl rfl) ?_
     refine Dw.pure (i := 25) rfl (by kernel_rfl) (Want.yes rfl rfl rfl rfl) rfl (ltN rfl) (QP.move rfl rfl) ?_
     refine Dw.pure (i := 26) rfl (by kernel_rfl) (Want.yes rfl rfl rfl rfl) rfl (ltN rfl) (QP.nilCheck rfl rfl) ?_
     refine Dw.pure (i := 27) rfl (by kernel_rfl) (Want.yes rfl rfl rfl rfl) rfl (ltN rfl) (QP.fieldAddr rfl rfl f55_1) ?_
     refine Dw.read (i := 28) rfl (by kernel_rfl) (Want.yes rfl rfl rfl rfl) rfl (ltN rfl) (QR.load1 (v := .slice _ (ordL s.M2).length _) rfl rfl g22 (Ref20Kernel.sub_i _)) ?_
     refine Dw.eff (i := 24) (by kernel_rfl) (by kernel_rfl) ?_
     refine One.mk (o := _) (l := [28]) rfl (by kernel_rfl) (Want.yes rfl rfl rfl rfl) rfl (ltN rfl) (EF.call rfl ce11 rfl (.cons (by repeat constructor) Takes.nil) (fun F' hle hr => importedA F' hok2 (by omega))) (by kernel_rfl) ?_
     rintro v152 _ ⟨_, rfl, rfl⟩
     refine ⟨?_, ?_⟩
     ·rw [List.forall_mem_cons]
      refine ⟨?_, fun _ h => (by cases h)⟩
      ·refine Look.app ?_
       exact Look.mk rfl rfl rfl (QR.load1 (v := .slice _ (ordL s.M2).length _) rfl rfl g22 (Ref20Kernel.sub_i _))
     refine ?_
     refine J.app ?_
     refine Dw.slCase (v := v152) (xs := ordL s.M2) (by repeat constructor) (fun a152 c152 hv152 hh152 => ?_)
     subst hv152
     refine Dw.eff (i := 29) (by kernel_rfl) (by kernel_rfl) ?_
     refine One.mk (o := _) (l := []) rfl (by kernel_rfl) (Want.yes rfl rfl rfl rfl) rfl (ltN rfl) (EF.call rfl ce18 rfl (.cons (by repeat constructor) (.cons (by repeat constructor) Takes.nil)) (fun F' hle hr => sameE F' hh152 hq2.i (by omega) (by omega))) (by kernel_rfl) ?_
     rintro _ _ ⟨_, ⟨rfl, rfl⟩, rfl⟩
     refine ⟨fun _ h => (by cases h), ?_⟩
     refine J.app ?_
     refine J.boolT (decide_eq_true rfl) ?_
     refine Dw.pure (i := 30) rfl (by kernel_rfl) (Want.yes rfl rfl rfl rfl) rfl (ltN rfl) (QP.not rfl rfl) ?_
     refine Dw.pure (i := 31) rfl (by kernel_rfl) (Want.none rfl) rfl (ltN rfl) (QP.pick_f rfl rfl rfl) ?_
     refine Dw.nil (by kernel_rfl) ?_
     refine hk27 _ _ ?_
     refine Run.cond_f rfl ?_
     refine Run.skip ?_
     refine hk14 _ _ ?_
     refine Run.region ?_
     show Sq _ _ _ [0, 1, 2] _ _ _ _
     refine Sq.quiet (i := 0) rfl (Want.none rfl) rfl (ltN rfl) (QP.move rfl rfl).read ?_
     refine Sq.quiet (i := 1) rfl (Want.none rfl) rfl (ltN rfl) (QP.add64 rfl rfl rfl (by first | omega | (simp <;> omega)) (by first | omega | (simp <;> omega))).read ?_
     refine Sq.quiet (i := 2) rfl (Want.none rfl) rfl (ltN rfl) (QP.assign rfl rfl).read ?_
     refine Sq.nil ?_
     exact J.envJ (J.keep (.cons (by repeat constructor) (.cons (by repeat constructor) (.cons (by repeat constructor) (.cons (by repeat constructor) Takes.nil)))) (hl11 (i + 1) ((⟨(if 0 > x.n then 0 else x.n), s.M1, s.M2⟩ : KS)) ((⟨rx.al, rx.cl, rx.ai, rx.ci⟩ : RXk)) (⟨by omega, hok2, hq2⟩) (by omega))) ⟨rfl, rfl, rfl, rfl, trivial⟩
    ·skip
     refine Sq.quiet (i := 1) rfl (Want.none rfl) rfl (ltN rfl) (QP.assign rfl rfl).read ?_
     refine Sq.nil ?_
     refine hk23 _ _ ?_
     refine Run.cond_f rfl ?_
     refine Run.seq fun k28 hk28 => ?_
     refine Run.region ?_
     show Sq _ _ _ [0, 1] _ _ _ _
     refine Sq.quiet (i := 0) rfl (Want.none rfl) rfl (ltN rfl) (QP.eql rfl rfl rfl).read ?_
     refine J.caseD (fun c58 => ?_) (fun c58 => ?_)
     ·skip
      refine Sq.quiet (i := 1) rfl (Want.none rfl) rfl (ltN rfl) (QP.assign rfl rfl).read ?_
      refine Sq.nil ?_
      refine hk28 _ _ ?_
      refine Run.cond_t rfl ?_
      refine Run.regionD (M := [0, 0, 2, 6, 0, 16, 48, 126, 255, 0, 0, 1024, 3072, 8191, 16383, 32767]) (q := 24191) (r := 4168) (by kernel_rfl) ?_
      refine Dw.pure (i := 0) rfl (by kernel_rfl) (Want.none rfl) rfl (ltN rfl) (QP.move rfl rfl) ?_
      refine Dw.pure (i := 1) rfl (by kernel_rfl) (Want.none rfl) rfl (ltN rfl) (QP.fieldAddr rfl rfl f57_1) ?_
      refine Dw.pure (i := 2) rfl (by kernel_rfl) (Want.none rfl) rfl (ltN rfl) (QP.fieldAddr rfl rfl f42_1) ?_
      refine Dw.read (i := 3) rfl (by kernel_rfl) (Want.none rfl) rfl (ltN rfl) (QR.load rfl rfl g38 ((Law20Act.sub_op _).trans (Op.sub_entry _))) ?_
      refine Dw.pure (i := 4) rfl (by kernel_rfl) (Want.none rfl) rfl (ltN rfl) (QP.fieldAddr rfl rfl f57_1) ?_
      refine Dw.pure (i := 5) rfl (by kernel_rfl) (Want.none rfl) rfl (ltN rfl) (QP.fieldAddr rfl rfl f42_1) ?_
      refine Dw.read (i := 6) rfl (by kernel_rfl) (Want.none rfl) rfl (ltN rfl) (QR.load rfl rfl g38 ((Law20Act.sub_op _).trans (Op.sub_entry _))) ?_
      refine Dw.pure (i := 9) rfl (by kernel_rfl) (Want.none rfl) rfl (ltN rfl) (QP.move rfl rfl) ?_
      refine Dw.pure (i := 10) rfl (by kernel_rfl) (Want.none rfl) rfl (ltN rfl) (QP.fieldAddr rfl rfl f57_1) ?_
      refine Dw.pure (i := 11) rfl (by kernel_rfl) (Want.none rfl) rfl (ltN rfl) (QP.fieldAddr rfl rfl f42_1) ?_
      refine Dw.read (i := 12) rfl (by kernel_rfl) (Want.none rfl) rfl (ltN rfl) (QR.load rfl rfl g38 ((Law20Act.sub_op _).trans (Op.sub_entry _))) ?_
      refine Dw.eff (i := 7) (by kernel_rfl) (by kernel_rfl) ?_
      refine One.mk (o := _) (l := [12]) rfl (by kernel_rfl) (Want.none rfl) rfl (ltN rfl) (EF.buildSliceN (enc := Entry.enc) (xs := [((x).op).entry, ((x).op).entry]) rfl Try.underlying22 z38 zero38 (by simp [Value.cells, Entry.enc_len]) (by decide) rfl rfl rfl Entry.enc_len (by decide)) (by kernel_rfl) ?_
      rintro _ _ ⟨b66, rfl, rfl⟩
      refine ⟨?_, ?_⟩
      ·rw [List.forall_mem_cons]
       refine ⟨?_, fun _ h => (by cases h)⟩
       ·exact Look.mk rfl rfl rfl (QR.load rfl rfl g38 ((Law20Act.sub_op _).trans (Op.sub_entry _)))
      refine ?_
      refine Dw.eff (i := 8) (by kernel_rfl) (by kernel_rfl) ?_
      refine One.mk (o := _) (l := [12]) rfl (by kernel_rfl) (Want.none rfl) rfl (ltN rfl) (EF.call rfl ce10 rfl (.cons (by repeat constructor) Takes.nil) (fun F' hle hr => importA F' (xs := [x.op.entry, x.op.entry]) (argSl_all Entry.enc_len (hr b66 _ (by repeat constructor))) (by simp) (Nat.le_trans hok.l2 (by omega)))) (by kernel_rfl) ?_
      rintro _ _ ⟨_, ⟨rfl, rfl⟩, rfl⟩
      refine ⟨?_, ?_⟩
      ·rw [List.forall_mem_cons]
       refine ⟨?_, fun _ h => (by cases h)⟩
       ·refine Look.app ?_
        exact Look.mk rfl rfl rfl (QR.load rfl rfl g38 ((Law20Act.sub_op _).trans (Op.sub_entry _)))
      refine ?_
      refine J.app ?_
      rw [imp_count, show [x.op.entry, x.op.entry].foldl (impK s.M1) s.M2 = impK s.M1 s.M2 x.op.entry by simp only [List.foldl_cons, List.foldl_nil, impK_twice]]
      refine Dw.eff (i := 13) (by kernel_rfl) (by kernel_rfl) ?_
      refine One.mk (o := _) (l := []) rfl (by kernel_rfl) (Want.none rfl) rfl (ltN rfl) (EF.call rfl ce25 rfl (.cons (by repeat constructor) (.cons (by repeat constructor) (.cons (by repeat constructor) Takes.nil))) (fun F' hle hr => rimport_spec F' hok.h1.ordL hok.h2.ordL hq.l hq.i (hok.lens (by omega)).1 (hok.lens (by omega)).2 x.op.entry)) (by kernel_rfl) ?_
      rintro _ _ ⟨_, ⟨a2, c2, J3, rfl, hh3, ho3, rfl⟩, rfl⟩
      refine ⟨fun _ h => (by cases h), ?_⟩
      refine J.app ?_
      obtain rfl := ordL_eq ho3
      refine Dw.pure (i := 14) rfl (by kernel_rfl) (Want.none rfl) rfl (ltN rfl) (QP.eql rfl rfl rfl) ?_
      refine J.decT (rfl) ?_
      refine Dw.eff (i := 15) (by kernel_rfl) (by kernel_rfl) ?_
      refine One.mk (o := _) (l := []) rfl (by kernel_rfl) (Want.none rfl) rfl (ltN rfl) ((QP.assign rfl rfl).eff) (by kernel_rfl) ?_
      rintro _ _ ⟨rfl, rfl⟩
      refine ⟨fun _ h => (by cases h), ?_⟩
      refine Dw.nil (by kernel_rfl) ?_
      refine hk17 _ _ ?_
      refine Run.seq fun k29 hk29 => ?_
      refine Run.region ?_
      show Sq _ _ _ [0, 1, 2, 3, 4, 5, 6, 7, 8, 9, 10, 11] _ _ _ _
      have hok2 : KOk (⟨s.n, s.M1, (impK s.M1 s.M2 x.op.entry)⟩ : KS) (i + 1) := hok.imp x.op.entry
      have hq2 : RQk (⟨s.n, s.M1, (impK s.M1 s.M2 x.op.entry)⟩ : KS) (⟨rx.al, rx.cl, a2, c2⟩ : RXk) := ⟨hq.l, hh3⟩
      have l1 : (ordL s.M1).length ≤ 100000 := (hok2.lens (by omega)).1
      have l2 : (ordL (impK s.M1 s.M2 x.op.entry)).length ≤ 100000 := (hok2.lens (by omega)).2
      refine Sq.quiet (i := 0) rfl (Want.none rfl) rfl (ltN rfl) (QP.move rfl rfl).read ?_
      refine Sq.quiet (i := 1) rfl (Want.none rfl) rfl (ltN rfl) (QP.fieldAddr rfl rfl f57_3).read ?_
      refine Sq.quiet (i := 2) rfl (Want.none rfl) rfl (ltN rfl) (QR.load rfl rfl g30 (Law20Act.sub_src _)) ?_
      refine Sq.quiet (i := 3) rfl (Want.none rfl) rfl (ltN rfl) (QP.fieldAddr rfl rfl f57_4).read ?_
      refine Sq.quiet (i := 4) rfl (Want.none rfl) rfl (ltN rfl) (QR.load rfl rfl g30 (Law20Act.sub_dst _)) ?_
      refine Sq.eff (i := 5) rfl (Want.none rfl) rfl (ltN rfl) (EF.call rfl ce19 rfl (.cons (by repeat constructor) Takes.nil) (fun F' hle hr => lookA F' hok2 (by omega) x.src x.dst)) ?_
      rintro _ _ ⟨_, ⟨D, hD, rfl, rfl⟩, rfl⟩
      refine J.app ?_
      refine Sq.quiet (i := 6) rfl (Want.none rfl) rfl (ltN rfl) (QP.move rfl rfl).read ?_
      refine Sq.quiet (i := 7) rfl (Want.none rfl) rfl (ltN rfl) (QP.extract rfl rfl rfl).read ?_
      refine Sq.quiet (i := 8) rfl (Want.none rfl) rfl (ltN rfl) (QP.extract rfl rfl rfl).read ?_
      refine Sq.eff (i := 9) rfl (Want.none rfl) rfl (ltN rfl) (EF.allocA (l := Entry.enc Entry.zero) rfl zero38) ?_
      rintro _ _ ⟨b9, rfl, rfl⟩
      refine Sq.act (i := 10) rfl (Want.none rfl) rfl (EF.storeA rfl rfl rfl z38 (SetL.all (Entry.enc_len _) (Entry.enc_len _)) (Entry.enc_cell _)) ?_
      rintro _ _ rfl
      refine Sq.quiet (i := 11) rfl (Want.none rfl) rfl (ltN rfl) (QP.assign rfl rfl).read ?_
      refine Sq.nil ?_
      refine hk29 _ _ ?_
      refine Run.seq fun k30 hk30 => ?_
      refine Run.region ?_
      show Sq _ _ _ [0, 1, 2, 3, 4, 5, 6, 7, 8, 9, 10, 11] _ _ _ _
      refine Sq.quiet (i := 0) rfl (Want.none rfl) rfl (ltN rfl) (QP.move rfl rfl).read ?_
      refine Sq.quiet (i := 1) rfl (Want.none rfl) rfl (ltN rfl) (QP.fieldAddr rfl rfl f57_3).read ?_
      refine Sq.quiet (i := 2) rfl (Want.none rfl) rfl (ltN rfl) (QR.load rfl rfl g30 (Law20Act.sub_src _)) ?_
      refine Sq.quiet (i := 3) rfl (Want.none rfl) rfl (ltN rfl) (QP.fieldAddr rfl rfl f57_4).read ?_
      refine Sq.quiet (i := 4) rfl (Want.none rfl) rfl (ltN rfl) (QR.load rfl rfl g30 (Law20Act.sub_dst _)) ?_
      refine Sq.eff (i := 5) rfl (Want.none rfl) rfl (ltN rfl) (EF.call rfl ce27 rfl (.cons (by repeat constructor) (.cons (by repeat constructor) (.cons (by repeat constructor) Takes.nil))) (fun F' hle hr => rlookup_spec F' hok2.h1.ordL hok2.h2.ordL hq2.l hq2.i l1 l2 x.src x.dst)) ?_
      rintro _ _ ⟨_, ⟨r, rfl, hbest, rfl⟩, rfl⟩
      refine J.app ?_
      obtain rfl := look_same hok2 hD hbest
      refine Sq.quiet (i := 6) rfl (Want.none rfl) rfl (ltN rfl) (QP.move rfl rfl).read ?_
      refine Sq.quiet (i := 7) rfl (Want.none rfl) rfl (ltN rfl) (QP.extract rfl rfl rfl).read ?_
      refine Sq.quiet (i := 8) rfl (Want.none rfl) rfl (ltN rfl) (QP.extract rfl rfl rfl).read ?_
      refine Sq.eff (i := 9) rfl (Want.none rfl) rfl (ltN rfl) (EF.allocA (l := Entry.enc Entry.zero) rfl zero38) ?_
      rintro _ _ ⟨b11, rfl, rfl⟩
      refine Sq.act (i := 10) rfl (Want.none rfl) rfl (EF.storeA rfl rfl rfl z38 (SetL.all (Entry.enc_len _) (Entry.enc_len _)) (Entry.enc_cell _)) ?_
      rintro _ _ rfl
      refine Sq.quiet (i := 11) rfl (Want.none rfl) rfl (ltN rfl) (QP.assign rfl rfl).read ?_
      refine Sq.nil ?_
      refine hk30 _ _ ?_
      refine Run.seq fun k31 hk31 => ?_
      refine Run.regionD (M := [0, 1, 3, 7, 7, 31, 63, 127, 255, 255, 1023, 2047, 4095, 8191, 16383, 8191, 40959, 106495, 237567, 524287, 1048575, 2097151, 4194303, 8388607, 16777215, 8388607, 41943039, 109051903, 243269631, 536870911, 1073741823, 2147483647]) (q := 3740778495) (r := 268697624) (by kernel_rfl) ?_
      refine Dw.pure (i := 0) rfl (by kernel_rfl) (Want.none rfl) rfl (ltN rfl) (QP.move rfl rfl) ?_
      refine Dw.pure (i := 1) rfl (by kernel_rfl) (Want.none rfl) rfl (ltN rfl) (QP.not rfl rfl) ?_
      refine Dw.pure (i := 2) rfl (by kernel_rfl) (Want.none rfl) rfl (ltN rfl) (QP.move rfl rfl) ?_
      refine Dw.read (i := 3) rfl (by kernel_rfl) (Want.yes rfl rfl rfl rfl) rfl (ltN rfl) (QR.load rfl rfl g38 (Entry.enc_sub _)) ?_
      refine Dw.read (i := 4) rfl (by kernel_rfl) (Want.yes rfl rfl rfl rfl) rfl (ltN rfl) (QR.load rfl rfl g38 (Entry.enc_sub _)) ?_
      refine Dw.pure (i := 5) rfl (by kernel_rfl) (Want.yes rfl rfl rfl rfl) rfl (ltN rfl) (QP.neq_agg eq38 rfl rfl rfl) ?_
      refine J.decF (by simp) ?_
      refine Dw.pure (i := 6) rfl (by kernel_rfl) (Want.none rfl) rfl (ltN rfl) (QP.pick_f rfl rfl rfl) ?_
      refine Dw.pure (i := 7) rfl (by kernel_rfl) (Want.none rfl) rfl (ltN rfl) (QP.move rfl rfl) ?_
      refine Dw.pure (i := 8) rfl (by kernel_rfl) (Want.yes rfl rfl rfl rfl) rfl (ltN rfl) (QP.move rfl rfl) ?_
      refine Dw.pure (i := 9) rfl (by kernel_rfl) (Want.yes rfl rfl rfl rfl) rfl (ltN rfl) (QP.move rfl rfl) ?_
      refine Dw.pure (i := 10) rfl (by kernel_rfl) (Want.yes rfl rfl rfl rfl) rfl (ltN rfl) (QP.neqB rfl rfl rfl Try.underlying4) ?_
      refine J.boolF (by simp) ?_
      refine Dw.pure (i := 11) rfl (by kernel_rfl) (Want.none rfl) rfl (ltN rfl) (QP.pick_f rfl rfl rfl) ?_
      refine Dw.pure (i := 12) rfl (by kernel_rfl) (Want.none rfl) rfl (ltN rfl) (QP.move rfl rfl) ?_
      refine Dw.pure (i := 13) rfl (by kernel_rfl) (Want.yes rfl rfl rfl rfl) rfl (ltN rfl) (QP.move rfl rfl) ?_
      refine Dw.pure (i := 15) rfl (by kernel_rfl) (Want.yes rfl rfl rfl rfl) rfl (ltN rfl) (QP.move rfl rfl) ?_
      refine Dw.pure (i := 16) rfl (by kernel_rfl) (Want.yes rfl rfl rfl rfl) rfl (ltN rfl) (QP.nilCheck rfl rfl) ?_
      refine Dw.pure (i := 17) rfl (by kernel_rfl) (Want.yes rfl rfl rfl rfl) rfl (ltN rfl) (QP.fieldAddr rfl rfl f55_0) ?_
      refine Dw.read (i := 18) rfl (by kernel_rfl) (Want.yes rfl rfl rfl rfl) rfl (ltN rfl) (QR.load1 (v := .slice _ (ordL s.M1).length _) rfl rfl g22 (Ref20Kernel.sub_l _)) ?_
      refine Dw.eff (i := 14) (by kernel_rfl) (by kernel_rfl) ?_
      refine One.mk (o := _) (l := [18]) rfl (by kernel_rfl) (Want.yes rfl rfl rfl rfl) rfl (ltN rfl) (EF.call rfl ce17 rfl (.cons (by repeat constructor) Takes.nil) (fun F' hle hr => listA F' hok2 (by omega))) (by kernel_rfl) ?_
      rintro v142 _ ⟨_, rfl, rfl⟩
      refine ⟨?_, ?_⟩
      ·rw [List.forall_mem_cons]
       refine ⟨?_, fun _ h => (by cases h)⟩
       ·refine Look.app ?_
        exact Look.mk rfl rfl rfl (QR.load1 (v := .slice _ (ordL s.M1).length _) rfl rfl g22 (Ref20Kernel.sub_l _))
      refine ?_
      refine J.app ?_
      refine Dw.slCase (v := v142) (xs := ordL s.M1) (by repeat constructor) (fun a142 c142 hv142 hh142 => ?_)
      subst hv142
      refine Dw.eff (i := 19) (by kernel_rfl) (by kernel_rfl) ?_
      refine One.mk (o := _) (l := []) rfl (by kernel_rfl) (Want.yes rfl rfl rfl rfl) rfl (ltN rfl) (EF.call rfl ce18 rfl (.cons (by repeat constructor) (.cons (by repeat constructor) Takes.nil)) (fun F' hle hr => sameE F' hh142 hq2.l (by omega) (by omega))) (by kernel_rfl) ?_
      rintro _ _ ⟨_, ⟨rfl, rfl⟩, rfl⟩
      refine ⟨fun _ h => (by cases h), ?_⟩
      refine J.app ?_
      refine J.boolT (decide_eq_true rfl) ?_
      refine Dw.pure (i := 20) rfl (by kernel_rfl) (Want.yes rfl rfl rfl rfl) rfl (ltN rfl) (QP.not rfl rfl) ?_
      refine Dw.pure (i := 21) rfl (by kernel_rfl) (Want.none rfl) rfl (ltN rfl) (QP.pick_f rfl rfl rfl) ?_
      refine Dw.pure (i := 22) rfl (by kernel_rfl) (Want.none rfl) rfl (ltN rfl) (QP.move rfl rfl) ?_
      refine Dw.pure (i := 23) rfl (by kernel_rfl) (Want.yes rfl rfl rfl rfl) rfl (ltN rfl) (QP.move rfl rfl) ?_
      refine Dw.pure (i := 25) rfl (by kernel_rfl) (Want.yes rfl rfl rfl rfl) rfl (ltN rfl) (QP.move rfl rfl) ?_
      refine Dw.pure (i := 26) rfl (by kernel_rfl) (Want.yes rfl rfl rfl rfl) rfl (ltN rfl) (QP.nilCheck rfl rfl) ?_
      refine Dw.pure (i := 27) rfl (by kernel_rfl) (Want.yes rfl rfl rfl rfl) rfl (ltN rfl) (QP.fieldAddr rfl rfl f55_1) ?_
      refine Dw.read (i := 28) rfl (by kernel_rfl) (Want.yes rfl rfl rfl rfl) rfl (ltN rfl) (QR.load1 (v := .slice _ (ordL (impK s.M1 s.M2 x.op.entry)).length _) rfl rfl g22 (Ref20Kernel.sub_i _)) ?_
      refine Dw.eff (i := 24) (by kernel_rfl) (by kernel_rfl) ?_
      refine One.mk (o := _) (l := [28]) rfl (by kernel_rfl) (Want.yes rfl rfl rfl rfl) rfl (ltN rfl) (EF.call rfl ce11 rfl (.cons (by repeat constructor) Takes.nil) (fun F' hle hr => importedA F' hok2 (by omega))) (by kernel_rfl) ?_
      rintro v152 _ ⟨_, rfl, rfl⟩
      refine ⟨?_, ?_⟩
      ·rw [List.forall_mem_cons]
       refine ⟨?_, fun _ h => (by cases h)⟩
       ·refine Look.app ?_
        exact Look.mk rfl rfl rfl (QR.load1 (v := .slice _ (ordL (impK s.M1 s.M2 x.op.entry)).length _) rfl rfl g22 (Ref20Kernel.sub_i _))
      refine ?_
      refine J.app ?_
      refine Dw.slCase (v := v152) (xs := ordL (impK s.M1 s.M2 x.op.entry)) (by repeat constructor) (fun a152 c152 hv152 hh152 => ?_)
      subst hv152
      refine Dw.eff (i := 29) (by kernel_rfl) (by kernel_rfl) ?_
      refine One.mk (o := _) (l := []) rfl (by kernel_rfl) (Want.yes rfl rfl rfl rfl) rfl (ltN rfl) (EF.call rfl ce18 rfl (.cons (by repeat constructor) (.cons (by repeat constructor) Takes.nil)) (fun F' hle hr => sameE F' hh152 hq2.i (by omega) (by omega))) (by kernel_rfl) ?_
      rintro _ _ ⟨_, ⟨rfl, rfl⟩, rfl⟩
      refine ⟨fun _ h => (by cases h), ?_⟩
      refine J.app ?_
      refine J.boolT (decide_eq_true rfl) ?_
      refine Dw.pure (i := 30) rfl (by kernel_rfl) (Want.yes rfl rfl rfl rfl) rfl (ltN rfl) (QP.not rfl rfl) ?_
      refine Dw.pure (i := 31) rfl (by kernel_rfl) (Want.none rfl) rfl (ltN rfl) (QP.pick_f rfl rfl rfl) ?_
      refine Dw.nil (by kernel_rfl) ?_
      refine hk31 _ _ ?_
      refine Run.cond_f rfl ?_
      refine Run.skip ?_
      refine hk14 _ _ ?_
      refine Run.region ?_
      show Sq _ _ _ [0, 1, 2] _ _ _ _
      refine Sq.quiet (i := 0) rfl (Want.none rfl) rfl (ltN rfl) (QP.move rfl rfl).read ?_
      refine Sq.quiet (i := 1) rfl (Want.none rfl) rfl (ltN rfl) (QP.add64 rfl rfl rfl (by first | omega | (simp <;> omega)) (by first | omega | (simp <;> omega))).read ?_
      refine Sq.quiet (i := 2) rfl (Want.none rfl) rfl (ltN rfl) (QP.assign rfl rfl).read ?_
      refine Sq.nil ?_
      exact J.envJ (J.keep (.cons (by repeat constructor) (.cons (by repeat constructor) (.cons (by repeat constructor) (.cons (by repeat constructor) Takes.nil)))) (hl11 (i + 1) ((⟨s.n, s.M1, (impK s.M1 s.M2 x.op.entry)⟩ : KS)) ((⟨rx.al, rx.cl, a2, c2⟩ : RXk)) (⟨by omega, hok2, hq2⟩) (by omega))) ⟨rfl, rfl, rfl, rfl, trivial⟩
     ·skip
      refine Sq.quiet (i := 1) rfl (Want.none rfl) rfl (ltN rfl) (QP.assign rfl rfl).read ?_
      refine Sq.nil ?_
      refine hk28 _ _ ?_
      refine Run.cond_f rfl ?_
      refine Run.seq fun k32 hk32 => ?_
      refine Run.region ?_
      show Sq _ _ _ [0, 1] _ _ _ _
      refine Sq.quiet (i := 0) rfl (Want.none rfl) rfl (ltN rfl) (QP.eql rfl rfl rfl).read ?_
      refine J.caseD (fun c75 => ?_) (fun c75 => ?_)
      ·skip
       refine Sq.quiet (i := 1) rfl (Want.none rfl) rfl (ltN rfl) (QP.assign rfl rfl).read ?_
       refine Sq.nil ?_
       refine hk32 _ _ ?_
       refine Run.cond_t rfl ?_
       refine Run.seq fun k33 hk33 => ?_
       refine Run.region ?_
       show Sq _ _ _ [0, 1, 2] _ _ _ _
       refine Sq.quiet (i := 0) rfl (Want.none rfl) rfl (ltN rfl) (QP.move rfl rfl).read ?_
       refine Sq.eff (i := 1) rfl (Want.none rfl) rfl (ltN rfl) (EF.call rfl ce26 rfl (.cons (by repeat constructor) Takes.nil) (fun F' hle hr => copyA F')) ?_
       rintro _ _ ⟨_, ⟨cb, rfl, rfl⟩, rfl⟩
       refine J.app ?_
       refine Sq.quiet (i := 2) rfl (Want.none rfl) rfl (ltN rfl) (QP.assign rfl rfl).read ?_
       refine Sq.nil ?_
       refine hk33 _ _ ?_
       refine Run.seq fun k34 hk34 => ?_
       refine Run.seq fun k35 hk35 => ?_
       refine Run.regionD (M := [0, 1, 3, 7, 15, 7, 39, 103, 231, 511, 1023, 2047, 4095, 8191, 16383, 8191, 40959, 106495, 237567, 524287, 1048575, 2097151]) (q := 3653103) (r := 262400) (by kernel_rfl) ?_
       obtain ⟨l1, l2⟩ := hok.lens (by omega)
       refine Dw.pure (i := 0) rfl (by kernel_rfl) (Want.none rfl) rfl (ltN rfl) (QP.move rfl rfl) ?_
       refine Dw.pure (i := 1) rfl (by kernel_rfl) (Want.none rfl) rfl (ltN rfl) (QP.ptr_eq_nil rfl rfl rfl Try.underlying24) ?_
       refine Dw.pure (i := 2) rfl (by kernel_rfl) (Want.none rfl) rfl (ltN rfl) (QP.move rfl rfl) ?_
       refine Dw.pure (i := 3) rfl (by kernel_rfl) (Want.yes rfl rfl rfl rfl) rfl (ltN rfl) (QP.move rfl rfl) ?_
       refine Dw.pure (i := 5) rfl (by kernel_rfl) (Want.yes rfl rfl rfl rfl) rfl (ltN rfl) (QP.move rfl rfl) ?_
       refine Dw.pure (i := 6) rfl (by kernel_rfl) (Want.yes rfl rfl rfl rfl) rfl (ltN rfl) (QP.nilCheck rfl rfl) ?_
       refine Dw.pure (i := 7) rfl (by kernel_rfl) (Want.yes rfl rfl rfl rfl) rfl (ltN rfl) (QP.fieldAddr rfl rfl f55_0) ?_
       refine Dw.read (i := 8) rfl (by kernel_rfl) (Want.yes rfl rfl rfl rfl) rfl (ltN rfl) (QR.load1 (v := .slice _ (ordL s.M1).length _) rfl rfl g22 (Ref20Kernel.sub_l _)) ?_
       refine Dw.eff (i := 4) (by kernel_rfl) (by kernel_rfl) ?_
       refine One.mk (o := _) (l := [8]) rfl (by kernel_rfl) (Want.yes rfl rfl rfl rfl) rfl (ltN rfl) (EF.call rfl ce17 rfl (.cons (by repeat constructor) Takes.nil) (fun F' hle hr => listA F' hok (by omega))) (by kernel_rfl) ?_
       rintro v82 _ ⟨_, rfl, rfl⟩
       refine ⟨?_, ?_⟩
       ·rw [List.forall_mem_cons]
        refine ⟨?_, fun _ h => (by cases h)⟩
        ·refine Look.app ?_
         exact Look.mk rfl rfl rfl (QR.load1 (v := .slice _ (ordL s.M1).length _) rfl rfl g22 (Ref20Kernel.sub_l _))
       refine ?_
       refine J.app ?_
       refine Dw.slCase (v := v82) (xs := ordL s.M1) (by repeat constructor) (fun a82 c82 hv82 hh82 => ?_)
       subst hv82
       refine Dw.eff (i := 9) (by kernel_rfl) (by kernel_rfl) ?_
       refine One.mk (o := _) (l := []) rfl (by kernel_rfl) (Want.yes rfl rfl rfl rfl) rfl (ltN rfl) (EF.call rfl ce18 rfl (.cons (by repeat constructor) (.cons (by repeat constructor) Takes.nil)) (fun F' hle hr => sameE F' hh82 hq.l (by omega) (by omega))) (by kernel_rfl) ?_
       rintro _ _ ⟨_, ⟨rfl, rfl⟩, rfl⟩
       refine ⟨fun _ h => (by cases h), ?_⟩
       refine J.app ?_
       refine J.boolT (decide_eq_true rfl) ?_
       refine Dw.pure (i := 10) rfl (by kernel_rfl) (Want.yes rfl rfl rfl rfl) rfl (ltN rfl) (QP.not rfl rfl) ?_
       refine Dw.pure (i := 11) rfl (by kernel_rfl) (Want.none rfl) rfl (ltN rfl) (QP.pick_f rfl rfl rfl) ?_
       refine Dw.pure (i := 12) rfl (by kernel_rfl) (Want.none rfl) rfl (ltN rfl) (QP.move rfl rfl) ?_
       refine Dw.pure (i := 13) rfl (by kernel_rfl) (Want.yes rfl rfl rfl rfl) rfl (ltN rfl) (QP.move rfl rfl) ?_
       refine Dw.pure (i := 15) rfl (by kernel_rfl) (Want.yes rfl rfl rfl rfl) rfl (ltN rfl) (QP.move rfl rfl) ?_
       refine Dw.pure (i := 16) rfl (by kernel_rfl) (Want.yes rfl rfl rfl rfl) rfl (ltN rfl) (QP.nilCheck rfl rfl) ?_
       refine Dw.pure (i := 17) rfl (by kernel_rfl) (Want.yes rfl rfl rfl rfl) rfl (ltN rfl) (QP.fieldAddr rfl rfl f55_1) ?_
       refine Dw.read (i := 18) rfl (by kernel_rfl) (Want.yes rfl rfl rfl rfl) rfl (ltN rfl) (QR.load1 (v := .slice _ (ordL s.M2).length _) rfl rfl g22 (Ref20Kernel.sub_i _)) ?_
       refine Dw.eff (i := 14) (by kernel_rfl) (by kernel_rfl) ?_
       refine One.mk (o := _) (l := [18]) rfl (by kernel_rfl) (Want.yes rfl rfl rfl rfl) rfl (ltN rfl) (EF.call rfl ce11 rfl (.cons (by repeat constructor) Takes.nil) (fun F' hle hr => importedA F' hok (by omega))) (by kernel_rfl) ?_
       rintro v92 _ ⟨_, rfl, rfl⟩
       refine ⟨?_, ?_⟩
       ·rw [List.forall_mem_cons]
        refine ⟨?_, fun _ h => (by cases h)⟩
        ·refine Look.app ?_
         exact Look.mk rfl rfl rfl (QR.load1 (v := .slice _ (ordL s.M2).length _) rfl rfl g22 (Ref20Kernel.sub_i _))
       refine ?_
       refine J.app ?_
       refine Dw.slCase (v := v92) (xs := ordL s.M2) (by repeat constructor) (fun a92 c92 hv92 hh92 => ?_)
       subst hv92
       refine Dw.eff (i := 19) (by kernel_rfl) (by kernel_rfl) ?_
       refine One.mk (o := _) (l := []) rfl (by kernel_rfl) (Want.yes rfl rfl rfl rfl) rfl (ltN rfl) (EF.call rfl ce18 rfl (.cons (by repeat constructor) (.cons (by repeat constructor) Takes.nil)) (fun F' hle hr => sameE F' hh92 hq.i (by omega) (by omega))) (by kernel_rfl) ?_
       rintro _ _ ⟨_, ⟨rfl, rfl⟩, rfl⟩
       refine ⟨fun _ h => (by cases h), ?_⟩
       refine J.app ?_
       refine J.boolT (decide_eq_true rfl) ?_
       refine Dw.pure (i := 20) rfl (by kernel_rfl) (Want.yes rfl rfl rfl rfl) rfl (ltN rfl) (QP.not rfl rfl) ?_
       refine Dw.pure (i := 21) rfl (by kernel_rfl) (Want.none rfl) rfl (ltN rfl) (QP.pick_f rfl rfl rfl) ?_
       refine Dw.nil (by kernel_rfl) ?_
       refine hk35 _ _ ?_
       refine Run.cond_f rfl ?_
       refine Run.skip ?_
       refine hk34 _ _ ?_
       refine Run.seq fun k36 hk36 => ?_
       refine Run.region ?_
       show Sq _ _ _ [0, 1, 2, 3] _ _ _ _
       refine Sq.quiet (i := 0) rfl (Want.none rfl) rfl (ltN rfl) (QP.move rfl rfl).read ?_
       refine Sq.quiet (i := 1) rfl (Want.none rfl) rfl (ltN rfl) (QP.fieldAddr rfl rfl f57_1).read ?_
       refine Sq.quiet (i := 2) rfl (Want.none rfl) rfl (ltN rfl) (QR.load rfl rfl g42 (Law20Act.sub_op _)) ?_
       refine Sq.eff (i := 3) rfl (Want.none rfl) rfl (ltN rfl) (EF.call rfl ce16 rfl (.cons (by repeat constructor) Takes.nil) (fun F' hle hr => doA F' ⟨hok.n0, hok.n1⟩ x.op)) ?_
       rintro _ _ ⟨_, ⟨rfl, rfl⟩, rfl⟩
       refine J.app ?_
       refine Sq.nil ?_
       refine hk36 _ _ ?_
       refine Run.region ?_
       show Sq _ _ _ [0, 1, 2, 3, 4, 5] _ _ _ _
       refine Sq.quiet (i := 0) rfl (Want.none rfl) rfl (ltN rfl) (QP.move rfl rfl).read ?_
       refine Sq.quiet (i := 1) rfl (Want.none rfl) rfl (ltN rfl) (QP.fieldAddr rfl rfl f57_1).read ?_
       refine Sq.quiet (i := 2) rfl (Want.none rfl) rfl (ltN rfl) (QP.fieldAddr rfl rfl f42_1).read ?_
       refine Sq.quiet (i := 3) rfl (Want.none rfl) rfl (ltN rfl) (QR.load rfl rfl g38 ((Law20Act.sub_op _).trans (Op.sub_entry _))) ?_
       refine Sq.eff (i := 4) rfl (Want.none rfl) rfl (ltN rfl) (EF.buildSlice1 rfl Try.underlying22 z38 zero38 (by simp [Value.cells, Entry.enc_len]) (by decide) rfl rfl (Entry.enc_len _) (by decide)) ?_
       rintro _ _ ⟨b108, rfl, rfl⟩
       refine Sq.eff (i := 5) rfl (Want.none rfl) rfl (ltN rfl) (EF.call rfl ce10 rfl (.cons (by repeat constructor) Takes.nil) (fun F' hle hr => importA F' (s := ⟨(doK s.n s.M1 s.M2 x.op).2.1, (doK s.n s.M1 s.M2 x.op).2.2, s.M2⟩) (xs := [x.op.entry]) (argSl_one Entry.enc_len (x := x.op.entry) (hr b108 _ (by repeat constructor))) (by simp) (Nat.le_trans hok.l2 (by omega)))) ?_
       rintro _ _ ⟨_, ⟨rfl, rfl⟩, rfl⟩
       refine J.app ?_
       refine Sq.nil ?_
       refine hk17 _ _ ?_
       refine Run.seq fun k37 hk37 => ?_
       refine Run.region ?_
       show Sq _ _ _ [0, 1, 2, 3, 4, 5, 6, 7, 8, 9, 10, 11] _ _ _ _
       have hok2 : KOk (⟨s.n, s.M1, s.M2⟩ : KS) (i + 1) := hok.mono (Nat.le_succ i)
       have hq2 : RQk (⟨s.n, s.M1, s.M2⟩ : KS) (⟨rx.al, rx.cl, rx.ai, rx.ci⟩ : RXk) := ⟨hq.l, hq.i⟩
       have l1 : (ordL s.M1).length ≤ 100000 := (hok2.lens (by omega)).1
       have l2 : (ordL s.M2).length ≤ 100000 := (hok2.lens (by omega)).2
       refine Sq.quiet (i := 0) rfl (Want.none rfl) rfl (ltN rfl) (QP.move rfl rfl).read ?_
       refine Sq.quiet (i := 1) rfl (Want.none rfl) rfl (ltN rfl) (QP.fieldAddr rfl rfl f57_3).read ?_
       refine Sq.quiet (i := 2) rfl (Want.none rfl) rfl (ltN rfl) (QR.load rfl rfl g30 (Law20Act.sub_src _)) ?_
       refine Sq.quiet (i := 3) rfl (Want.none rfl) rfl (ltN rfl) (QP.fieldAddr rfl rfl f57_4).read ?_
       refine Sq.quiet (i := 4) rfl (Want.none rfl) rfl (ltN rfl) (QR.load rfl rfl g30 (Law20Act.sub_dst _)) ?_
       refine Sq.eff (i := 5) rfl (Want.none rfl) rfl (ltN rfl) (EF.call rfl ce19 rfl (.cons (by repeat constructor) Takes.nil) (fun F' hle hr => lookA F' hok2 (by omega) x.src x.dst)) ?_
       rintro _ _ ⟨_, ⟨D, hD, rfl, rfl⟩, rfl⟩
       refine J.app ?_
       refine Sq.quiet (i := 6) rfl (Want.none rfl) rfl (ltN rfl) (QP.move rfl rfl).read ?_
       refine Sq.quiet (i := 7) rfl (Want.none rfl) rfl (ltN rfl) (QP.extract rfl rfl rfl).read ?_
       refine Sq.quiet (i := 8) rfl (Want.none rfl) rfl (ltN rfl) (QP.extract rfl rfl rfl).read ?_
       refine Sq.eff (i := 9) rfl (Want.none rfl) rfl (ltN rfl) (EF.allocA (l := Entry.enc Entry.zero) rfl zero38) ?_
       rintro _ _ ⟨b9, rfl, rfl⟩
       refine Sq.act (i := 10) rfl (Want.none rfl) rfl (EF.storeA rfl rfl rfl z38 (SetL.all (Entry.enc_len _) (Entry.enc_len _)) (Entry.enc_cell _)) ?_
       rintro _ _ rfl
       refine Sq.quiet (i := 11) rfl (Want.none rfl) rfl (ltN rfl) (QP.assign rfl rfl).read ?_
       refine Sq.nil ?_
       refine hk37 _ _ ?_
       refine Run.seq fun k38 hk38 => ?_
       refine Run.region ?_
       show Sq _ _ _ [0, 1, 2, 3, 4, 5, 6, 7, 8, 9, 10, 11] _ _ _ _
       refine Sq.quiet (i := 0) rfl (Want.none rfl) rfl (ltN rfl) (QP.move rfl rfl).read ?_
       refine Sq.quiet (i := 1) rfl (Want.none rfl) rfl (ltN rfl) (QP.fieldAddr rfl rfl f57_3).read ?_
       refine Sq.quiet (i := 2) rfl (Want.none rfl) rfl (ltN rfl) (QR.load rfl rfl g30 (Law20Act.sub_src _)) ?_
       refine Sq.quiet (i := 3) rfl (Want.none rfl) rfl (ltN rfl) (QP.fieldAddr rfl rfl f57_4).read ?_
       refine Sq.quiet (i := 4) rfl (Want.none rfl) rfl (ltN rfl) (QR.load rfl rfl g30 (Law20Act.sub_dst _)) ?_
       refine Sq.eff (i := 5) rfl (Want.none rfl) rfl (ltN rfl) (EF.call rfl ce27 rfl (.cons (by repeat constructor) (.cons (by repeat constructor) (.cons (by repeat constructor) Takes.nil))) (fun F' hle hr => rlookup_spec F' hok2.h1.ordL hok2.h2.ordL hq2.l hq2.i l1 l2 x.src x.dst)) ?_
       rintro _ _ ⟨_, ⟨r, rfl, hbest, rfl⟩, rfl⟩
       refine J.app ?_
       obtain rfl := look_same hok2 hD hbest
       refine Sq.quiet (i := 6) rfl (Want.none rfl) rfl (ltN rfl) (QP.move rfl rfl).read ?_
       refine Sq.quiet (i := 7) rfl (Want.none rfl) rfl (ltN rfl) (QP.extract rfl rfl rfl).read ?_
       refine Sq.quiet (i := 8) rfl (Want.none rfl) rfl (ltN rfl) (QP.extract rfl rfl rfl).read ?_
       refine Sq.eff (i := 9) rfl (Want.none rfl) rfl (ltN rfl) (EF.allocA (l := Entry.enc Entry.zero) rfl zero38) ?_
       rintro _ _ ⟨b11, rfl, rfl⟩
       refine Sq.act (i := 10) rfl (Want.none rfl) rfl (EF.storeA rfl rfl rfl z38 (SetL.all (Entry.enc_len _) (Entry.enc_len _)) (Entry.enc_cell _)) ?_
       rintro _ _ rfl
       refine Sq.quiet (i := 11) rfl (Want.none rfl) rfl (ltN rfl) (QP.assign rfl rfl).read ?_
       refine Sq.nil ?_
       refine hk38 _ _ ?_
       refine Run.seq fun k39 hk39 => ?_
       refine Run.regionD (M := [0, 1, 3, 7, 7, 31, 63, 127, 255, 255, 1023, 2047, 4095, 8191, 16383, 8191, 40959, 106495, 237567, 524287, 1048575, 2097151, 4194303, 8388607, 16777215, 8388607, 41943039, 109051903, 243269631, 536870911, 1073741823, 2147483647]) (q := 3740778495) (r := 268697624) (by kernel_rfl) ?_
       refine Dw.pure (i := 0) rfl (by kernel_rfl) (Want.none rfl) rfl (ltN rfl) (QP.move rfl rfl) ?_
       refine Dw.pure (i := 1) rfl (by kernel_rfl) (Want.none rfl) rfl (ltN rfl) (QP.not rfl rfl) ?_
       refine Dw.pure (i := 2) rfl (by kernel_rfl) (Want.none rfl) rfl (ltN rfl) (QP.move rfl rfl) ?_
       refine Dw.read (i := 3) rfl (by kernel_rfl) (Want.yes rfl rfl rfl rfl) rfl (ltN rfl) (QR.load rfl rfl g38 (Entry.enc_sub _)) ?_
       refine Dw.read (i := 4) rfl (by kernel_rfl) (Want.yes rfl rfl rfl rfl) rfl (ltN rfl) (QR.load rfl rfl g38 (Entry.enc_sub _)) ?_
       refine Dw.pure (i := 5) rfl (by kernel_rfl) (Want.yes rfl rfl rfl rfl) rfl (ltN rfl) (QP.neq_agg eq38 rfl rfl rfl) ?_
       refine J.decF (by simp) ?_
       refine Dw.pure (i := 6) rfl (by kernel_rfl) (Want.none rfl) rfl (ltN rfl) (QP.pick_f rfl rfl rfl) ?_
       refine Dw.pure (i := 7) rfl (by kernel_rfl) (Want.none rfl) rfl (ltN rfl) (QP.move rfl rfl) ?_
       refine Dw.pure (i := 8) rfl (by kernel_rfl) (Want.yes rfl rfl rfl rfl) rfl (ltN rfl) (QP.move rfl rfl) ?_
       refine Dw.pure (i := 9) rfl (by kernel_rfl) (Want.yes rfl rfl rfl rfl) rfl (ltN rfl) (QP.move rfl rfl) ?_
       refine Dw.pure (i := 10) rfl (by kernel_rfl) (Want.yes rfl rfl rfl rfl) rfl (ltN rfl) (QP.neqB rfl rfl rfl Try.underlying4) ?_
       refine J.boolF (by simp) ?_
       refine Dw.pure (i := 11) rfl (by kernel_rfl) (Want.none rfl) rfl (ltN rfl) (QP.pick_f rfl rfl rfl) ?_
       refine Dw.pure (i := 12) rfl (by kernel_rfl) (Want.none rfl) rfl (ltN rfl) (QP.move rfl rfl) ?_
       refine Dw.pure (i := 13) rfl (by kernel_rfl) (Want.yes rfl rfl rfl rfl) rfl (ltN rfl) (QP.move rfl rfl) ?_
       refine Dw.pure (i := 15) rfl (by kernel_rfl) (Want.yes rfl rfl rfl rfl) rfl (ltN rfl) (QP.move rfl rfl) ?_
       refine Dw.pure (i := 16) rfl (by kernel_rfl) (Want.yes rfl rfl rfl rfl) rfl (ltN rfl) (QP.nilCheck rfl rfl) ?_
       refine Dw.pure (i := 17) rfl (by kernel_rfl) (Want.yes rfl rfl rfl rfl) rfl (ltN rfl) (QP.fieldAddr rfl rfl f55_0) ?_
       refine Dw.read (i := 18) rfl (by kernel_rfl) (Want.yes rfl rfl rfl rfl) rfl (ltN rfl) (QR.load1 (v := .slice _ (ordL s.M1).length _) rfl rfl g22 (Ref20Kernel.sub_l _)) ?_
       refine Dw.eff (i := 14) (by kernel_rfl) (by kernel_rfl) ?_
       refine One.mk (o := _) (l := [18]) rfl (by kernel_rfl) (Want.yes rfl rfl rfl rfl) rfl (ltN rfl) (EF.call rfl ce17 rfl (.cons (by repeat constructor) Takes.nil) (fun F' hle hr => listA F' hok2 (by omega))) (by kernel_rfl) ?_
       rintro v142 _ ⟨_, rfl, rfl⟩
       refine ⟨?_, ?_⟩
       ·rw [List.forall_mem_cons]
        refine ⟨?_, fun _ h => (by cases h)⟩
        ·refine Look.app ?_
         exact Look.mk rfl rfl rfl (QR.load1 (v := .slice _ (ordL s.M1).length _) rfl rfl g22 (Ref20Kernel.sub_l _))
       refine ?_
       refine J.app ?_
       refine Dw.slCase (v := v142) (xs := ordL s.M1) (by repeat constructor) (fun a142 c142 hv142 hh142 => ?_)
       subst hv142
       refine Dw.eff (i := 19) (by kernel_rfl) (by kernel_rfl) ?_
       refine One.mk (o := _) (l := []) rfl (by kernel_rfl) (Want.yes rfl rfl rfl rfl) rfl (ltN rfl) (EF.call rfl ce18 rfl (.cons (by repeat constructor) (.cons (by repeat constructor) Takes.nil)) (fun F' hle hr => sameE F' hh142 hq2.l (by omega) (by omega))) (by kernel_rfl) ?_
       rintro _ _ ⟨_, ⟨rfl, rfl⟩, rfl⟩
       refine ⟨fun _ h => (by cases h), ?_⟩
       refine J.app ?_
       refine J.boolT (decide_eq_true rfl) ?_
       refine Dw.pure (i := 20) rfl (by kernel_rfl) (Want.yes rfl rfl rfl rfl) rfl (ltN rfl) (QP.not rfl rfl) ?_
       refine Dw.pure (i := 21) rfl (by kernel_rfl) (Want.none rfl) rfl (ltN rfl) (QP.pick_f rfl rfl rfl) ?_
       refine Dw.pure (i := 22) rfl (by kernel_rfl) (Want.none rfl) rfl (ltN rfl) (QP.move rfl rfl) ?_
       refine Dw.pure (i := 23) rfl (by kernel_rfl) (Want.yes rfl rfl rfl rfl) rfl (ltN rfl) (QP.move rfl rfl) ?_
       refine Dw.pure (i := 25) rfl (by kernel_rfl) (Want.yes rfl rfl rfl rfl) rfl (ltN rfl) (QP.move rfl rfl) ?_
       refine Dw.pure (i := 26) rfl (by kernel_rfl) (Want.yes rfl rfl rfl rfl) rfl (ltN rfl) (QP.nilCheck rfl rfl) ?_
       refine Dw.pure (i := 27) rfl (by kernel_rfl) (Want.yes rfl rfl rfl rfl) rfl (ltN rfl) (QP.fieldAddr rfl rfl f55_1) ?_
       refine Dw.read (i := 28) rfl (by kernel_rfl) (Want.yes rfl rfl rfl rfl) rfl (ltN rfl) (QR.load1 (v := .slice _ (ordL s.M2).length _) rfl rfl g22 (Ref20Kernel.sub_i _)) ?_
       refine Dw.eff (i := 24) (by kernel_rfl) (by kernel_rfl) ?_
       refine One.mk (o := _) (l := [28]) rfl (by kernel_rfl) (Want.yes rfl rfl rfl rfl) rfl (ltN rfl) (EF.call rfl ce11 rfl (.cons (by repeat constructor) Takes.nil) (fun F' hle hr => importedA F' hok2 (by omega))) (by kernel_rfl) ?_
       rintro v152 _ ⟨_, rfl, rfl⟩
       refine ⟨?_, ?_⟩
       ·rw [List.forall_mem_cons]
        refine ⟨?_, fun _ h => (by cases h)⟩
        ·refine Look.app ?_
         exact Look.mk rfl rfl rfl (QR.load1 (v := .slice _ (ordL s.M2).length _) rfl rfl g22 (Ref20Kernel.sub_i _))
       refine ?_
       refine J.app ?_
       refine Dw.slCase (v := v152) (xs := ordL s.M2) (by repeat constructor) (fun a152 c152 hv152 hh152 => ?_)
       subst hv152
       refine Dw.eff (i := 29) (by kernel_rfl) (by kernel_rfl) ?_
       refine One.mk (o := _) (l := []) rfl (by kernel_rfl) (Want.yes rfl rfl rfl rfl) rfl (ltN rfl) (EF.call rfl ce18 rfl (.cons (by repeat constructor) (.cons (by repeat constructor) Takes.nil)) (fun F' hle hr => sameE F' hh152 hq2.i (by omega) (by omega))) (by kernel_rfl) ?_
       rintro _ _ ⟨_, ⟨rfl, rfl⟩, rfl⟩
       refine ⟨fun _ h => (by cases h), ?_⟩
       refine J.app ?_
       refine J.boolT (decide_eq_true rfl) ?_
       refine Dw.pure (i := 30) rfl (by kernel_rfl) (Want.yes rfl rfl rfl rfl) rfl (ltN rfl) (QP.not rfl rfl) ?_
       refine Dw.pure (i := 31) rfl (by kernel_rfl) (Want.none rfl) rfl (ltN rfl) (QP.pick_f rfl rfl rfl) ?_
       refine Dw.nil (by kernel_rfl) ?_
       refine hk39 _ _ ?_
       refine Run.cond_f rfl ?_
       refine Run.skip ?_
       refine hk14 _ _ ?_
       refine Run.region ?_
       show Sq _ _ _ [0, 1, 2] _ _ _ _
       refine Sq.quiet (i := 0) rfl (Want.none rfl) rfl (ltN rfl) (QP.move rfl rfl).read ?_
       refine Sq.quiet (i := 1) rfl (Want.none rfl) rfl (ltN rfl) (QP.add64 rfl rfl rfl (by first | omega | (simp <;> omega)) (by first | omega | (simp <;> omega))).read ?_
       refine Sq.quiet (i := 2) rfl (Want.none rfl) rfl (ltN rfl) (QP.assign rfl rfl).read ?_
       refine Sq.nil ?_
       exact J.envJ (J.keep (.cons (by repeat constructor) (.cons (by repeat constructor) (.cons (by repeat constructor) (.cons (by repeat constructor) Takes.nil)))) (hl11 (i + 1) ((⟨s.n, s.M1, s.M2⟩ : KS)) ((⟨rx.al, rx.cl, rx.ai, rx.ci⟩ : RXk)) (⟨by omega, hok2, hq2⟩) (by omega))) ⟨rfl, rfl, rfl, rfl, trivial⟩
      ·skip
       refine Sq.quiet (i := 1) rfl (Want.none rfl) rfl (ltN rfl) (QP.assign rfl rfl).read ?_
       refine Sq.nil ?_
       refine hk32 _ _ ?_
       refine Run.cond_f rfl ?_
       refine Run.skip ?_
       refine hk17 _ _ ?_
       refine Run.seq fun k40 hk40 => ?_
       refine Run.region ?_
       show Sq _ _ _ [0, 1, 2, 3, 4, 5, 6, 7, 8, 9, 10, 11] _ _ _ _
       have hok2 : KOk (⟨s.n, s.M1, s.M2⟩ : KS) (i + 1) := hok.mono (Nat.le_succ i)
       have hq2 : RQk (⟨s.n, s.M1, s.M2⟩ : KS) (⟨rx.al, rx.cl, rx.ai, rx.ci⟩ : RXk) := ⟨hq.l, hq.i⟩
       have l1 : (ordL s.M1).length ≤ 100000 := (hok2.lens (by omega)).1
       have l2 : (ordL s.M2).length ≤ 100000 := (hok2.lens (by omega)).2
       refine Sq.quiet (i := 0) rfl (Want.none rfl) rfl (ltN rfl) (QP.move rfl rfl).read ?_
       refine Sq.quiet (i := 1) rfl (Want.none rfl) rfl (ltN rfl) (QP.fieldAddr rfl rfl f57_3).read ?_
       refine Sq.quiet (i := 2) rfl (Want.none rfl) rfl (ltN rfl) (QR.load rfl rfl g30 (Law20Act.sub_src _)) ?_
       refine Sq.quiet (i := 3) rfl (Want.none rfl) rfl (ltN rfl) (QP.fieldAddr rfl rfl f57_4).read ?_
       refine Sq.quiet (i := 4) rfl (Want.none rfl) rfl (ltN rfl) (QR.load rfl rfl g30 (Law20Act.sub_dst _)) ?_
       refine Sq.eff (i := 5) rfl (Want.none rfl) rfl (ltN rfl) (EF.call rfl ce19 rfl (.cons (by repeat constructor) Takes.nil) (fun F' hle hr => lookA F' hok2 (by omega) x.src x.dst)) ?_
       rintro _ _ ⟨_, ⟨D, hD, rfl, rfl⟩, rfl⟩
       refine J.app ?_
       refine Sq.quiet (i := 6) rfl (Want.none rfl) rfl (ltN rfl) (QP.move rfl rfl).read ?_
       refine Sq.quiet (i := 7) rfl (Want.none rfl) rfl (ltN rfl) (QP.extract rfl rfl rfl).read ?_
       refine Sq.quiet (i := 8) rfl (Want.none rfl) rfl (ltN rfl) (QP.extract rfl rfl rfl).read ?_
       refine Sq.eff (i := 9) rfl (Want.none rfl) rfl (ltN rfl) (EF.allocA (l := Entry.enc Entry.zero) rfl zero38) ?_
       rintro _ _ ⟨b9, rfl, rfl⟩
       refine Sq.act (i := 10) rfl (Want.none rfl) rfl (EF.storeA rfl rfl rfl z38 (SetL.all (Entry.enc_len _) (Entry.enc_len _)) (Entry.enc_cell _)) ?_
       rintro _ _ rfl
       refine Sq.quiet (i := 11) rfl (Want.none rfl) rfl (ltN rfl) (QP.assign rfl rfl).read ?_
       refine Sq.nil ?_
       refine hk40 _ _ ?_
       refine Run.seq fun k41 hk41 => ?_
       refine Run.region ?_
       show Sq _ _ _ [0, 1, 2, 3, 4, 5, 6, 7, 8, 9, 10, 11] _ _ _ _
       refine Sq.quiet (i := 0) rfl (Want.none rfl) rfl (ltN rfl) (QP.move rfl rfl).read ?_
       refine Sq.quiet (i := 1) rfl (Want.none rfl) rfl (ltN rfl) (QP.fieldAddr rfl rfl f57_3).read ?_
       refine Sq.quiet (i := 2) rfl (Want.none rfl) rfl (ltN rfl) (QR.load rfl rfl g30 (Law20Act.sub_src _)) ?_
       refine Sq.quiet (i := 3) rfl (Want.none rfl) rfl (ltN rfl) (QP.fieldAddr rfl rfl f57_4).read ?_
       refine Sq.quiet (i := 4) rfl (Want.none rfl) rfl (ltN rfl) (QR.load rfl rfl g30 (Law20Act.sub_dst _)) ?_
       refine Sq.eff (i := 5) rfl (Want.none rfl) rfl (ltN rfl) (EF.call rfl ce27 rfl (.cons (by repeat constructor) (.cons (by repeat constructor) (.cons (by repeat constructor) Takes.nil))) (fun F' hle hr => rlookup_spec F' hok2.h1.ordL hok2.h2.ordL hq2.l hq2.i l1 l2 x.src x.dst)) ?_
       rintro _ _ ⟨_, ⟨r, rfl, hbest, rfl⟩, rfl⟩
       refine J.app ?_
       obtain rfl := look_same hok2 hD hbest
       refine Sq.quiet (i := 6) rfl (Want.none rfl) rfl (ltN rfl) (QP.move rfl rfl).read ?_
       refine Sq.quiet (i := 7) rfl (Want.none rfl) rfl (ltN rfl) (QP.extract rfl rfl rfl).read ?_
       refine Sq.quiet (i := 8) rfl (Want.none rfl) rfl (ltN rfl) (QP.extract rfl rfl rfl).read ?_
       refine Sq.eff (i := 9) rfl (Want.none rfl) rfl (ltN rfl) (EF.allocA (l := Entry.enc Entry.zero) rfl zero38) ?_
       rintro _ _ ⟨b11, rfl, rfl⟩
       refine Sq.act (i := 10) rfl (Want.none rfl) rfl (EF.storeA rfl rfl rfl z38 (SetL.all (Entry.enc_len _) (Entry.enc_len _)) (Entry.enc_cell _)) ?_
       rintro _ _ rfl
       refine Sq.quiet (i := 11) rfl (Want.none rfl) rfl (ltN rfl) (QP.assign rfl rfl).read ?_
       refine Sq.nil ?_
       refine hk41 _ _ ?_
       refine Run.seq fun k42 hk42 => ?_
       refine Run.regionD (M := [0, 1, 3, 7, 7, 31, 63, 127, 255, 255, 1023, 2047, 4095, 8191, 16383, 8191, 40959, 106495, 237567, 524287, 1048575, 2097151, 4194303, 8388607, 16777215, 8388607, 41943039, 109051903, 243269631, 536870911, 1073741823, 2147483647]) (q := 3740778495) (r := 268697624) (by kernel_rfl) ?_
       refine Dw.pure (i := 0) rfl (by kernel_rfl) (Want.none rfl) rfl (ltN rfl) (QP.move rfl rfl) ?_
       refine Dw.pure (i := 1) rfl (by kernel_rfl) (Want.none rfl) rfl (ltN rfl) (QP.not rfl rfl) ?_
       refine Dw.pure (i := 2) rfl (by kernel_rfl) (Want.none rfl) rfl (ltN rfl) (QP.move rfl rfl) ?_
       refine Dw.read (i := 3) rfl (by kernel_rfl) (Want.yes rfl rfl rfl rfl) rfl (ltN rfl) (QR.load rfl rfl g38 (Entry.enc_sub _)) ?_
       refine Dw.read (i := 4) rfl (by kernel_rfl) (Want.yes rfl rfl rfl rfl) rfl (ltN rfl) (QR.load rfl rfl g38 (Entry.enc_sub _)) ?_
       refine Dw.pure (i := 5) rfl (by kernel_rfl) (Want.yes rfl rfl rfl rfl) rfl (ltN rfl) (QP.neq_agg eq38 rfl rfl rfl) ?_
       refine J.decF (by simp) ?_
       refine Dw.pure (i := 6) rfl (by kernel_rfl) (Want.none rfl) rfl (ltN rfl) (QP.pick_f rfl rfl rfl) ?_
       refine Dw.pure (i := 7) rfl (by kernel_rfl) (Want.none rfl) rfl (ltN rfl) (QP.move rfl rfl) ?_
       refine Dw.pure (i := 8) rfl (by kernel_rfl) (Want.yes rfl rfl rfl rfl) rfl (ltN rfl) (QP.move rfl rfl) ?_
       refine Dw.pure (i := 9) rfl (by kernel_rfl) (Want.yes rfl rfl rfl rfl) rfl (ltN rfl) (QP.move rfl rfl) ?_
       refine Dw.pure (i := 10) rfl (by kernel_rfl) (Want.yes rfl rfl rfl rfl) rfl (ltN rfl) (QP.neqB rfl rfl rfl Try.underlying4) ?_
       refine J.boolF (by simp) ?_
       refine Dw.pure (i := 11) rfl (by kernel_rfl) (Want.none rfl) rfl (ltN rfl) (QP.pick_f rfl rfl rfl) ?_
       refine Dw.pure (i := 12) rfl (by kernel_rfl) (Want.none rfl) rfl (ltN rfl) (QP.move rfl rfl) ?_
       refine Dw.pure (i := 13) rfl (by kernel_rfl) (Want.yes rfl rfl rfl rfl) rfl (ltN rfl) (QP.move rfl rfl) ?_
       refine Dw.pure (i := 15) rfl (by kernel_rfl) (Want.yes rfl rfl rfl rfl) rfl (ltN rfl) (QP.move rfl rfl) ?_
       refine Dw.pure (i := 16) rfl (by kernel_rfl) (Want.yes rfl rfl rfl rfl) rfl (ltN rfl) (QP.nilCheck rfl rfl) ?_
       refine Dw.pure (i := 17) rfl (by kernel_rfl) (Want.yes rfl rfl rfl rfl) rfl (ltN rfl) (QP.fieldAddr rfl rfl f55_0) ?_
       refine Dw.read (i := 18) rfl (by kernel_rfl) (Want.yes rfl rfl rfl rfl) rfl (ltN rfl) (QR.load1 (v := .slice _ (ordL s.M1).length _) rfl rfl g22 (Ref20Kernel.sub_l _)) ?_
       refine Dw.eff (i := 14) (by kernel_rfl) (by kernel_rfl) ?_
       refine One.mk (o := _) (l := [18]) rfl (by kernel_rfl) (Want.yes rfl rfl rfl rfl) rfl (ltN rfl) (EF.call rfl ce17 rfl (.cons (by repeat constructor) Takes.nil) (fun F' hle hr => listA F' hok2 (by omega))) (by kernel_rfl) ?_
       rintro v142 _ ⟨_, rfl, rfl⟩
       refine ⟨?_, ?_⟩
       ·rw [List.forall_mem_cons]
        refine ⟨?_, fun _ h => (by cases h)⟩
        ·refine Look.app ?_
         exact Look.mk rfl rfl rfl (QR.load1 (v := .slice _ (ordL s.M1).length _) rfl rfl g22 (Ref20Kernel.sub_l _))
       refine ?_
       refine J.app ?_
       refine Dw.slCase (v := v142) (xs := ordL s.M1) (by repeat constructor) (fun a142 c142 hv142 hh142 => ?_)
       subst hv142
       refine Dw.eff (i := 19) (by kernel_rfl) (by kernel_rfl) ?_
       refine One.mk (o := _) (l := []) rfl (by kernel_rfl) (Want.yes rfl rfl rfl rfl) rfl (ltN rfl) (EF.call rfl ce18 rfl (.cons (by repeat constructor) (.cons (by repeat constructor) Takes.nil)) (fun F' hle hr => sameE F' hh142 hq2.l (by omega) (by omega))) (by kernel_rfl) ?_
       rintro _ _ ⟨_, ⟨rfl, rfl⟩, rfl⟩
       refine ⟨fun _ h => (by cases h), ?_⟩
       refine J.app ?_
       refine J.boolT (decide_eq_true rfl) ?_
       refine Dw.pure (i := 20) rfl (by kernel_rfl) (Want.yes rfl rfl rfl rfl) rfl (ltN rfl) (QP.not rfl rfl) ?_
       refine Dw.pure (i := 21) rfl (by kernel_rfl) (Want.none rfl) rfl (ltN rfl) (QP.pick_f rfl rfl rfl) ?_
       refine Dw.pure (i := 22) rfl (by kernel_rfl) (Want.none rfl) rfl (ltN rfl) (QP.move rfl rfl) ?_
       refine Dw.pure (i := 23) rfl (by kernel_rfl) (Want.yes rfl rfl rfl rfl) rfl (ltN rfl) (QP.move rfl rfl) ?_
       refine Dw.pure (i := 25) rfl (by kernel_rfl) (Want.yes rfl rfl rfl rfl) rfl (ltN rfl) (QP.move rfl rfl) ?_
       refine Dw.pure (i := 26) rfl (by kernel_rfl) (Want.yes rfl rfl rfl rfl) rfl (ltN rfl) (QP.nilCheck rfl rfl) ?_
       refine Dw.pure (i := 27) rfl (by kernel_rfl) (Want.yes rfl rfl rfl rfl) rfl (ltN rfl) (QP.fieldAddr rfl rfl f55_1) ?_
       refine Dw.read (i := 28) rfl (by kernel_rfl) (Want.yes rfl rfl rfl rfl) rfl (ltN rfl) (QR.load1 (v := .slice _ (ordL s.M2).length _) rfl rfl g22 (Ref20Kernel.sub_i _)) ?_
       refine Dw.eff (i := 24) (by kernel_rfl) (by kernel_rfl) ?_
       refine One.mk (o := _) (l := [28]) rfl (by kernel_rfl) (Want.yes rfl rfl rfl rfl) rfl (ltN rfl) (EF.call rfl ce11 rfl (.cons (by repeat constructor) Takes.nil) (fun F' hle hr => importedA F' hok2 (by omega))) (by kernel_rfl) ?_
       rintro v152 _ ⟨_, rfl, rfl⟩
       refine ⟨?_, ?_⟩
       ·rw [List.forall_mem_cons]
        refine ⟨?_, fun _ h => (by cases h)⟩
        ·refine Look.app ?_
         exact Look.mk rfl rfl rfl (QR.load1 (v := .slice _ (ordL s.M2).length _) rfl rfl g22 (Ref20Kernel.sub_i _))
       refine ?_
       refine J.app ?_
       refine Dw.slCase (v := v152) (xs := ordL s.M2) (by repeat constructor) (fun a152 c152 hv152 hh152 => ?_)
       subst hv152
       refine Dw.eff (i := 29) (by kernel_rfl) (by kernel_rfl) ?_
       refine One.mk (o := _) (l := []) rfl (by kernel_rfl) (Want.yes rfl rfl rfl rfl) rfl (ltN rfl) (EF.call rfl ce18 rfl (.cons (by repeat constructor) (.cons (by repeat constructor) Takes.nil)) (fun F' hle hr => sameE F' hh152 hq2.i (by omega) (by omega))) (by kernel_rfl) ?_
       rintro _ _ ⟨_, ⟨rfl, rfl⟩, rfl⟩
       refine ⟨fun _ h => (by cases h), ?_⟩
       refine J.app ?_
       refine J.boolT (decide_eq_true rfl) ?_
       refine Dw.pure (i := 30) rfl (by kernel_rfl) (Want.yes rfl rfl rfl rfl) rfl (ltN rfl) (QP.not rfl rfl) ?_
       refine Dw.pure (i := 31) rfl (by kernel_rfl) (Want.none rfl) rfl (ltN rfl) (QP.pick_f rfl rfl rfl) ?_
       refine Dw.nil (by kernel_rfl) ?_
       refine hk42 _ _ ?_
       refine Run.cond_f rfl ?_
       refine Run.skip ?_
       refine hk14 _ _ ?_
       refine Run.region ?_
       show Sq _ _ _ [0, 1, 2] _ _ _ _
       refine Sq.quiet (i := 0) rfl (Want.none rfl) rfl (ltN rfl) (QP.move rfl rfl).read ?_
       refine Sq.quiet (i := 1) rfl (Want.none rfl) rfl (ltN rfl) (QP.add64 rfl rfl rfl (by first | omega | (simp <;> omega)) (by first | omega | (simp <;> omega))).read ?_
       refine Sq.quiet (i := 2) rfl (Want.none rfl) rfl (ltN rfl) (QP.assign rfl rfl).read ?_
       refine Sq.nil ?_
       exact J.envJ (J.keep (.cons (by repeat constructor) (.cons (by repeat constructor) (.cons (by repeat constructor) (.cons (by repeat constructor) Takes.nil)))) (hl11 (i + 1) ((⟨s.n, s.M1, s.M2⟩ : KS)) ((⟨rx.al, rx.cl, rx.ai, rx.ci⟩ : RXk)) (⟨by omega, hok2, hq2⟩) (by omega))) ⟨rfl, rfl, rfl, rfl, trivial⟩
  ·skip
   refine Sq.nil ?_
   refine hk13 _ _ ?_
   refine Run.cond_f rfl ?_
   refine Run.exit rfl ?_
   refine hk9 _ _ ?_
   refine Run.seq fun k43 hk43 => ?_
   refine Run.region ?_
   show Sq _ _ _ [0, 1] _ _ _ _
   refine Sq.eff (i := 0) rfl (Want.none rfl) rfl (ltN rfl) (EF.call rfl ce8 rfl Takes.nil (fun F' hle hr => live_spec F')) ?_
   rintro _ _ ⟨_, ⟨rfl, rfl⟩, rfl⟩
   refine J.app ?_
   refine Sq.quiet (i := 1) rfl (Want.none rfl) rfl (ltN rfl) (QP.assign rfl rfl).read ?_
   refine Sq.nil ?_
   refine hk43 _ _ ?_
   refine Run.ret ?_
   exact J.ends (res_tmp rfl rfl) Takes.nil ⟨rfl, rfl⟩
end Slb
