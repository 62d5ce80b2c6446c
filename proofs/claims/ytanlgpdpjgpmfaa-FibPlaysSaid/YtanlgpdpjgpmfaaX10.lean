/- X10: a part of the proof that a law of this package holds for every input; no condition. -/
import Derived.Test.YtanlgpdpjgpmfaaX6
import Derived.Test.YtanlgpdpjgpmfaaX9
import Derived.Test.YtanlgpdpjgpmfaaM2
namespace Slb
open Go Go.Proofs
set_option maxRecDepth 20000
abbrev any4 : Prefix := ⟨⟨[0, 0, 0, 0, 0, 0, 0, 0, 0, 0, 255, 255, 0, 0, 0, 0], rfl⟩, ⟨96, by omega⟩⟩
def anyB (f : Int) : Prefix := if f = 4 then any4 else Prefix.zero
theorem set_any : SetL (Prefix.enc ⟨Bs.zero 16, ⟨96, by omega⟩⟩) 0 12 (bytesV [0, 0, 0, 0, 0, 0, 0, 0, 0, 0, 255, 255]) (Prefix.enc any4) := ⟨[], (Prefix.enc ⟨Bs.zero 16, ⟨96, by omega⟩⟩).take 12, (Prefix.enc ⟨Bs.zero 16, ⟨96, by omega⟩⟩).drop 12, by rfl, by rfl, rfl, by rfl, by rfl⟩

theorem shared4 (F : Fr)  : Spec Try.prog 50 #[.int .i64 4] [] F (fun v S => v = .int .i64 96 ∧ S = []) := by
 refine Spec.intro (N := 5) (args := [.int .i64 4]) Try.func50 rfl rfl (by simp) ?_
 refine Run.seq fun k1 hk1 => ?_
 refine Run.region ?_
 show Sq _ _ _ [0] _ _ _ _
 refine Sq.quiet (i := 0) rfl (Want.none rfl) rfl (ltN rfl) (QP.assign rfl rfl).read ?_
 refine Sq.nil ?_
 refine hk1 _ _ ?_
 refine Run.seq fun k2 hk2 => ?_
 refine Run.seq fun k3 hk3 => ?_
 refine Run.region ?_
 show Sq _ _ _ [0, 1] _ _ _ _
 refine Sq.quiet (i := 0) rfl (Want.none rfl) rfl (ltN rfl) (QP.move rfl rfl).read ?_
 refine Sq.quiet (i := 1) rfl (Want.none rfl) rfl (ltN rfl) (QP.eql rfl rfl rfl).read ?_
 refine Sq.nil ?_
 refine hk3 _ _ ?_
 refine Run.cond_t rfl ?_
 refine Run.seq fun k4 hk4 => ?_
 refine Run.region ?_
 show Sq _ _ _ [0] _ _ _ _
 refine Sq.quiet (i := 0) rfl (Want.none rfl) rfl (ltN rfl) (QP.assign rfl rfl).read ?_
 refine Sq.nil ?_
 refine hk4 _ _ ?_
 refine Run.ret ?_
 exact J.ends (res_tmp rfl rfl) Takes.nil ⟨rfl, rfl⟩

theorem shared6 (F : Fr) (f : Int) (hf : f ≠ 4) : Spec Try.prog 50 #[.int .i64 f] [] F (fun v S => v = .int .i64 0 ∧ S = []) := by
 refine Spec.intro (N := 5) (args := [.int .i64 f]) Try.func50 rfl rfl (by simp) ?_
 refine Run.seq fun k1 hk1 => ?_
 refine Run.region ?_
 show Sq _ _ _ [0] _ _ _ _
 refine Sq.quiet (i := 0) rfl (Want.none rfl) rfl (ltN rfl) (QP.assign rfl rfl).read ?_
 refine Sq.nil ?_
 refine hk1 _ _ ?_
 refine Run.seq fun k2 hk2 => ?_
 refine Run.seq fun k3 hk3 => ?_
 refine Run.region ?_
 show Sq _ _ _ [0, 1] _ _ _ _
 refine Sq.quiet (i := 0) rfl (Want.none rfl) rfl (ltN rfl) (QP.move rfl rfl).read ?_
 refine Sq.quiet (i := 1) rfl (Want.none rfl) rfl (ltN rfl) (QP.eql rfl rfl rfl).read ?_
 refine J.decF (hf) ?_
 refine Sq.nil ?_
 refine hk3 _ _ ?_
 refine Run.cond_f rfl ?_
 refine Run.skip ?_
 refine hk2 _ _ ?_
 refine Run.seq fun k4 hk4 => ?_
 refine Run.region ?_
 show Sq _ _ _ [0] _ _ _ _
 refine Sq.quiet (i := 0) rfl (Want.none rfl) rfl (ltN rfl) (QP.assign rfl rfl).read ?_
 refine Sq.nil ?_
 refine hk4 _ _ ?_
 refine Run.ret ?_
 exact J.ends (res_tmp rfl rfl) Takes.nil ⟨rfl, rfl⟩

theorem any4_spec (F : Fr)  : Spec Try.prog 32 #[.int .i64 4] [] F (fun v S => v = .agg (Prefix.enc any4).toArray ∧ S = []) := by
 refine Spec.intro (N := 13) (args := [.int .i64 4]) Try.func32 rfl rfl (by simp) ?_
 refine Run.seq fun k1 hk1 => ?_
 refine Run.region ?_
 show Sq _ _ _ [0] _ _ _ _
 refine Sq.eff (i := 0) rfl (Want.none rfl) rfl (ltN rfl) (EF.allocA (l := Prefix.enc Prefix.zero) rfl zero37) ?_
 rintro _ _ ⟨b2, rfl, rfl⟩
 refine Sq.nil ?_
 refine hk1 _ _ ?_
 refine Run.seq fun k2 hk2 => ?_
 refine Run.region ?_
 show Sq _ _ _ [0, 1, 2, 3, 4] _ _ _ _
 refine Sq.quiet (i := 0) rfl (Want.none rfl) rfl (ltN rfl) (QP.move rfl rfl).read ?_
 refine Sq.eff (i := 1) rfl (Want.none rfl) rfl (ltN rfl) (EF.call rfl ce50 rfl Takes.nil (fun F' hle hr => shared4 F')) ?_
 rintro _ _ ⟨_, ⟨rfl, rfl⟩, rfl⟩
 refine J.app ?_
 refine Sq.quiet (i := 2) rfl (Want.none rfl) rfl (ltN rfl) (QP.build (l := Prefix.enc ⟨(Bs.zero 16), (⟨96, by omega⟩ : I64)⟩) rfl st37 rfl (by exact ⟨rfl, trivial⟩) rfl).read ?_
 refine Sq.eff (i := 3) rfl (Want.none rfl) rfl (ltN rfl) (EF.allocA (l := Prefix.enc Prefix.zero) rfl zero37) ?_
 rintro _ _ ⟨b3, rfl, rfl⟩
 refine Sq.act (i := 4) rfl (Want.none rfl) rfl (EF.storeA rfl rfl rfl z37 (SetL.all (Prefix.enc_len _) (Prefix.enc_len _)) (Prefix.enc_cell _)) ?_
 rintro _ _ rfl
 refine Sq.nil ?_
 refine hk2 _ _ ?_
 refine Run.seq fun k3 hk3 => ?_
 refine Run.seq fun k4 hk4 => ?_
 refine Run.region ?_
 show Sq _ _ _ [0, 1] _ _ _ _
 refine Sq.quiet (i := 0) rfl (Want.none rfl) rfl (ltN rfl) (QP.move rfl rfl).read ?_
 refine Sq.quiet (i := 1) rfl (Want.none rfl) rfl (ltN rfl) (QP.eql rfl rfl rfl).read ?_
 refine Sq.nil ?_
 refine hk4 _ _ ?_
 refine Run.cond_t rfl ?_
 refine Run.region ?_
 show Sq _ _ _ [0, 1, 2] _ _ _ _
 refine Sq.quiet (i := 0) rfl (Want.none rfl) rfl (ltN rfl) (QP.fieldAddr rfl rfl f37_0).read ?_
 refine Sq.quiet (i := 1) rfl (Want.none rfl) rfl (ltN rfl) (QP.sliceArr rfl rfl Try.underlying35 z5).read ?_
 refine Sq.eff (i := 2) rfl (Want.none rfl) rfl (ltN rfl) (EF.copyStr (xs := [0, 0, 0, 0, 0, 0, 0, 0, 0, 0, 255, 255]) rfl rfl rfl rfl Try.underlying89 z5 (by decide) set_any) ?_
 rintro _ _ ⟨rfl, rfl⟩
 refine Sq.nil ?_
 refine hk3 _ _ ?_
 refine Run.seq fun k5 hk5 => ?_
 refine Run.region ?_
 show Sq _ _ _ [0, 1] _ _ _ _
 refine Sq.quiet (i := 0) rfl (Want.none rfl) rfl (ltN rfl) (QR.load rfl rfl g37 (Prefix.enc_sub _)) ?_
 refine Sq.act (i := 1) rfl (Want.none rfl) rfl (EF.storeA rfl rfl rfl z37 (SetL.all (Prefix.enc_len _) (Prefix.enc_len _)) (Prefix.enc_cell _)) ?_
 rintro _ _ rfl
 refine Sq.nil ?_
 refine hk5 _ _ ?_
 refine Run.ret ?_
 exact J.ends (res_cell rfl rfl g37 (Prefix.enc_sub _)) Takes.nil ⟨rfl, rfl⟩

theorem any6_spec (F : Fr) (f : Int) (hf : f ≠ 4) : Spec Try.prog 32 #[.int .i64 f] [] F (fun v S => v = .agg (Prefix.enc Prefix.zero).toArray ∧ S = []) := by
 refine Spec.intro (N := 13) (args := [.int .i64 f]) Try.func32 rfl rfl (by simp) ?_
 refine Run.seq fun k1 hk1 => ?_
 refine Run.region ?_
 show Sq _ _ _ [0] _ _ _ _
 refine Sq.eff (i := 0) rfl (Want.none rfl) rfl (ltN rfl) (EF.allocA (l := Prefix.enc Prefix.zero) rfl zero37) ?_
 rintro _ _ ⟨b2, rfl, rfl⟩
 refine Sq.nil ?_
 refine hk1 _ _ ?_
 refine Run.seq fun k2 hk2 => ?_
 refine Run.region ?_
 show Sq _ _ _ [0, 1, 2, 3, 4] _ _ _ _
 refine Sq.quiet (i := 0) rfl (Want.none rfl) rfl (ltN rfl) (QP.move rfl rfl).read ?_
 refine Sq.eff (i := 1) rfl (Want.none rfl) rfl (ltN rfl) (EF.call rfl ce50 rfl Takes.nil (fun F' hle hr => shared6 F' f hf)) ?_
 rintro _ _ ⟨_, ⟨rfl, rfl⟩, rfl⟩
 refine J.app ?_
 refine Sq.quiet (i := 2) rfl (Want.none rfl) rfl (ltN rfl) (QP.build (l := Prefix.enc ⟨(Bs.zero 16), (⟨0, by omega⟩ : I64)⟩) rfl st37 rfl (by exact ⟨rfl, trivial⟩) rfl).read ?_
 refine Sq.eff (i := 3) rfl (Want.none rfl) rfl (ltN rfl) (EF.allocA (l := Prefix.enc Prefix.zero) rfl zero37) ?_
 rintro _ _ ⟨b3, rfl, rfl⟩
 refine Sq.act (i := 4) rfl (Want.none rfl) rfl (EF.storeA rfl rfl rfl z37 (SetL.all (Prefix.enc_len _) (Prefix.enc_len _)) (Prefix.enc_cell _)) ?_
 rintro _ _ rfl
 refine Sq.nil ?_
 refine hk2 _ _ ?_
 refine Run.seq fun k3 hk3 => ?_
 refine Run.seq fun k4 hk4 => ?_
 refine Run.region ?_
 show Sq _ _ _ [0, 1] _ _ _ _
 refine Sq.quiet (i := 0) rfl (Want.none rfl) rfl (ltN rfl) (QP.move rfl rfl).read ?_
 refine Sq.quiet (i := 1) rfl (Want.none rfl) rfl (ltN rfl) (QP.eql rfl rfl rfl).read ?_
 refine J.decF (hf) ?_
 refine Sq.nil ?_
 refine hk4 _ _ ?_
 refine Run.cond_f rfl ?_
 refine Run.skip ?_
 refine hk3 _ _ ?_
 refine Run.seq fun k5 hk5 => ?_
 refine Run.region ?_
 show Sq _ _ _ [0, 1] _ _ _ _
 refine Sq.quiet (i := 0) rfl (Want.none rfl) rfl (ltN rfl) (QR.load rfl rfl g37 (Prefix.enc_sub _)) ?_
 refine Sq.act (i := 1) rfl (Want.none rfl) rfl (EF.storeA rfl rfl rfl z37 (SetL.all (Prefix.enc_len _) (Prefix.enc_len _)) (Prefix.enc_cell _)) ?_
 rintro _ _ rfl
 refine Sq.nil ?_
 refine hk5 _ _ ?_
 refine Run.ret ?_
 exact J.ends (res_cell rfl rfl g37 (Prefix.enc_sub _)) Takes.nil ⟨rfl, rfl⟩

theorem any_spec (F : Fr) (f : Int) : Spec Try.prog 32 #[.int .i64 f] [] F (fun v S => v = .agg (Prefix.enc (anyB f)).toArray ∧ S = []) := by
  by_cases hf : f = 4
  · subst hf; exact any4_spec F
  · have := any6_spec F f hf
    unfold anyB
    rw [if_neg hf]
    exact this

theorem find_spec (F : Fr) {a : Option Addr} {c : Nat} {L : List Entry} (hl1 : L.length ≤ 1000000) (hh : SlH a c L) (p : Pair) : Spec Try.prog 29 #[.slice a L.length c, .agg (Pair.enc p).toArray] [slA 41 51 Entry.enc (.slice a L.length c) L] F (fun v S => S = [slA 41 51 Entry.enc (.slice a L.length c) L] ∧ ∃ n : Int, v = .int .i64 n ∧ ((n = -1 ∧ ∀ e ∈ L, e.pair ≠ p) ∨ ∃ (i : Nat) (e : Entry), n = i ∧ L[i]? = some e ∧ e.pair = p)) := by
 refine Spec.intro (N := 20) (args := [.slice a L.length c, .agg (Pair.enc p).toArray]) Try.func29 rfl rfl (by simp) ?_
 refine Run.seq fun k1 hk1 => ?_
 refine Run.region ?_
 show Sq _ _ _ [0, 1] _ _ _ _
 refine Sq.eff (i := 0) rfl (Want.none rfl) rfl (ltN rfl) (EF.boxA rfl rfl) ?_
 rintro _ _ ⟨b3, rfl, rfl⟩
 refine Sq.quiet (i := 1) rfl (Want.none rfl) rfl (ltN rfl) (QP.assign rfl rfl).read ?_
 refine Sq.nil ?_
 refine hk1 _ _ ?_
 refine Run.seq fun k2 hk2 => ?_
 refine Run.seq fun k3 hk3 => ?_
 refine Run.region ?_
 show Sq _ _ _ [0] _ _ _ _
 refine Sq.quiet (i := 0) rfl (Want.none rfl) rfl (ltN rfl) (QP.assign rfl rfl).read ?_
 refine Sq.nil ?_
 refine hk3 _ _ ?_
 refine Run.block ?_
 refine Run.loop1 (fun (i : Nat) => i ≤ L.length ∧ ∀ e ∈ L.take i, e.pair ≠ p) (fun i => .cons 0 (.slice a L.length c) (.cons 3 (.pointer (some ⟨b3, 0, none⟩)) (.cons 5 (.int .i64 i) (.nil)))) (fun i => [slA 41 51 Entry.enc (.slice a L.length c) L, blk b3 (Pair.enc p) 39]) (fun i => L.length - i) (0) (⟨Nat.zero_le _, by simp⟩) ?_ ?_
 ·exact fun _ j => J.envJ (J.keep (.cons (by repeat constructor) (.cons (by repeat constructor) Takes.nil)) j) ⟨rfl, rfl, rfl, trivial⟩
 rintro i ⟨hil, hno⟩ kl4 hl4
 refine Run.seq fun k5 hk5 => ?_
 refine Run.seq fun k6 hk6 => ?_
 refine Run.region ?_
 show Sq _ _ _ [0, 1, 2, 3] _ _ _ _
 refine Sq.quiet (i := 0) rfl (Want.none rfl) rfl (ltN rfl) (QP.move rfl rfl).read ?_
 refine Sq.quiet (i := 1) rfl (Want.none rfl) rfl (ltN rfl) (QP.move rfl rfl).read ?_
 refine Sq.quiet (i := 2) rfl (Want.none rfl) rfl (ltN rfl) (QP.len rfl rfl rfl Try.underlying22).read ?_
 refine Sq.quiet (i := 3) rfl (Want.none rfl) rfl (ltN rfl) (QP.lss rfl rfl rfl).read ?_
 refine J.caseD (fun c9 => ?_) (fun c9 => ?_)
 ·skip
  refine Sq.nil ?_
  refine hk6 _ _ ?_
  refine Run.cond_t rfl ?_
  refine Run.skip ?_
  refine hk5 _ _ ?_
  refine Run.seq fun k7 hk7 => ?_
  refine Run.block ?_
  refine Run.seq fun k8 hk8 => ?_
  refine Run.regionD (M := [0, 0, 3, 7, 15, 0, 63]) (q := 127) (r := 48) (by kernel_rfl) ?_
  obtain ⟨x, hi⟩ : ∃ x, L[i]? = some x := ⟨_, List.getElem?_eq_getElem (by omega)⟩
  obtain ⟨b0, o0, rfl⟩ := hh.get (by omega)
  refine Dw.pure (i := 0) rfl (by kernel_rfl) (Want.none rfl) rfl (ltN rfl) (QP.move rfl rfl) ?_
  refine Dw.pure (i := 1) rfl (by kernel_rfl) (Want.none rfl) rfl (ltN rfl) (QP.move rfl rfl) ?_
  refine Dw.pure (i := 2) rfl (by kernel_rfl) (Want.none rfl) rfl (ltN rfl) (QP.indexAddr rfl rfl rfl Try.underlying22 z41 (by first | omega | (simp <;> omega)) (by first | omega | (simp <;> omega))) ?_
  refine Dw.pure (i := 3) rfl (by kernel_rfl) (Want.none rfl) rfl (ltN rfl) (QP.fieldAddr rfl rfl f41_0) ?_
  refine Dw.read (i := 4) rfl (by kernel_rfl) (Want.none rfl) rfl (ltN rfl) (QR.loadSlF rfl rfl g39 Entry.enc_len (SlAt.own Entry.enc_len (by repeat constructor)) hi (Entry.sub_pair _)) ?_
  refine Dw.read (i := 5) rfl (by kernel_rfl) (Want.none rfl) rfl (ltN rfl) (QR.load rfl rfl g39 (Pair.enc_sub _)) ?_
  refine Dw.pure (i := 6) rfl (by kernel_rfl) (Want.none rfl) rfl (ltN rfl) (QP.eql_agg eq39 rfl rfl rfl) ?_
  refine J.caseD (fun c18 => ?_) (fun c18 => ?_)
  ·skip
   refine Dw.nil (by kernel_rfl) ?_
   refine hk8 _ _ ?_
   refine Run.cond_t rfl ?_
   refine Run.seq fun k9 hk9 => ?_
   refine Run.region ?_
   show Sq _ _ _ [0, 1] _ _ _ _
   refine Sq.quiet (i := 0) rfl (Want.none rfl) rfl (ltN rfl) (QP.move rfl rfl).read ?_
   refine Sq.quiet (i := 1) rfl (Want.none rfl) rfl (ltN rfl) (QP.assign rfl rfl).read ?_
   refine Sq.nil ?_
   refine hk9 _ _ ?_
   refine Run.ret ?_
   exact J.ends (res_tmp rfl rfl) (.cons (by repeat constructor) Takes.nil) ⟨rfl, _, rfl, .inr ⟨i, x, rfl, hi, c18⟩⟩
  ·skip
   refine Dw.nil (by kernel_rfl) ?_
   refine hk8 _ _ ?_
   refine Run.cond_f rfl ?_
   refine Run.skip ?_
   refine hk7 _ _ ?_
   refine Run.region ?_
   show Sq _ _ _ [0, 1, 2] _ _ _ _
   refine Sq.quiet (i := 0) rfl (Want.none rfl) rfl (ltN rfl) (QP.move rfl rfl).read ?_
   refine Sq.quiet (i := 1) rfl (Want.none rfl) rfl (ltN rfl) (QP.add64 rfl rfl rfl (by first | omega | (simp <;> omega)) (by first | omega | (simp <;> omega))).read ?_
   refine Sq.quiet (i := 2) rfl (Want.none rfl) rfl (ltN rfl) (QP.assign rfl rfl).read ?_
   refine Sq.nil ?_
   exact J.envJ (J.keep (.cons (by repeat constructor) (.cons (by repeat constructor) Takes.nil)) (hl4 (i + 1) (⟨by omega, fun e he => by rw [List.take_add_one, hi] at he; rcases List.mem_append.1 he with he | he; exact hno e he; simp at he; subst he; exact c18⟩) (by omega))) ⟨rfl, rfl, rfl, trivial⟩
 ·skip
  refine Sq.nil ?_
  refine hk6 _ _ ?_
  refine Run.cond_f rfl ?_
  refine Run.exit rfl ?_
  refine hk2 _ _ ?_
  refine Run.seq fun k10 hk10 => ?_
  refine Run.region ?_
  show Sq _ _ _ [0] _ _ _ _
  refine Sq.quiet (i := 0) rfl (Want.none rfl) rfl (ltN rfl) (QP.assign rfl rfl).read ?_
  refine Sq.nil ?_
  refine hk10 _ _ ?_
  refine Run.ret ?_
  exact J.ends (res_tmp rfl rfl) (.cons (by repeat constructor) Takes.nil) ⟨rfl, _, rfl, .inl ⟨rfl, fun e he => hno e (by rw [List.take_of_length_le (by omega)]; exact he)⟩⟩

theorem sameE (F : Fr) {a a2 : Option Addr} {c c2 : Nat} {xs ys : List Entry} (h1 : SlH a c xs) (h2 : SlH a2 c2 ys) (hl1 : xs.length ≤ 1000000) (hl2 : ys.length ≤ 1000000)  : Spec Try.prog 11 #[.slice a xs.length c, .slice a2 ys.length c2] [slA 41 51 Entry.enc (.slice a xs.length c) xs, slA 41 51 Entry.enc (.slice a2 ys.length c2) ys] F (fun v S => v = .bool (decide (xs = ys)) ∧ S = [slA 41 51 Entry.enc (.slice a xs.length c) xs, slA 41 51 Entry.enc (.slice a2 ys.length c2) ys]) := by
 refine Spec.intro (N := 26) (args := [.slice a xs.length c, .slice a2 ys.length c2]) Try.func11 rfl rfl (by simp) ?_
 refine Run.seq fun k1 hk1 => ?_
 refine Run.region ?_
 show Sq _ _ _ [0] _ _ _ _
 refine Sq.quiet (i := 0) rfl (Want.none rfl) rfl (ltN rfl) (QP.assign rfl rfl).read ?_
 refine Sq.nil ?_
 refine hk1 _ _ ?_
 refine Run.seq fun k2 hk2 => ?_
 refine Run.seq fun k3 hk3 => ?_
 refine Run.region ?_
 show Sq _ _ _ [0, 1, 2, 3, 4] _ _ _ _
 refine Sq.quiet (i := 0) rfl (Want.none rfl) rfl (ltN rfl) (QP.move rfl rfl).read ?_
 refine Sq.quiet (i := 1) rfl (Want.none rfl) rfl (ltN rfl) (QP.len rfl rfl rfl Try.underlying22).read ?_
 refine Sq.quiet (i := 2) rfl (Want.none rfl) rfl (ltN rfl) (QP.move rfl rfl).read ?_
 refine Sq.quiet (i := 3) rfl (Want.none rfl) rfl (ltN rfl) (QP.len rfl rfl rfl Try.underlying22).read ?_
 refine Sq.quiet (i := 4) rfl (Want.none rfl) rfl (ltN rfl) (QP.neq rfl rfl rfl).read ?_
 refine J.caseD (fun c10 => ?_) (fun c10 => ?_)
 ·skip
  refine Sq.nil ?_
  refine hk3 _ _ ?_
  refine Run.cond_t rfl ?_
  refine Run.seq fun k4 hk4 => ?_
  refine Run.region ?_
  show Sq _ _ _ [0] _ _ _ _
  refine Sq.quiet (i := 0) rfl (Want.none rfl) rfl (ltN rfl) (QP.assign rfl rfl).read ?_
  refine Sq.nil ?_
  refine hk4 _ _ ?_
  refine Run.ret ?_
  exact J.ends (res_tmp rfl rfl) (.cons (by repeat constructor) (.cons (by repeat constructor) Takes.nil)) ⟨by rw [decide_eq_false]; intro h; subst h; exact c10 rfl, rfl⟩
 ·skip
  refine Sq.nil ?_
  refine hk3 _ _ ?_
  refine Run.cond_f rfl ?_
  refine Run.skip ?_
  refine hk2 _ _ ?_
  refine Run.seq fun k5 hk5 => ?_
  refine Run.seq fun k6 hk6 => ?_
  refine Run.region ?_
  show Sq _ _ _ [0] _ _ _ _
  refine Sq.quiet (i := 0) rfl (Want.none rfl) rfl (ltN rfl) (QP.assign rfl rfl).read ?_
  refine Sq.nil ?_
  refine hk6 _ _ ?_
  refine Run.block ?_
  refine Run.loop1 (fun (i : Nat) => i ≤ xs.length ∧ xs.length = ys.length ∧ xs.take i = ys.take i) (fun i => .cons 0 (.slice a xs.length c) (.cons 1 (.slice a2 ys.length c2) (.cons 5 (.int .i64 i) (.nil)))) (fun i => [slA 41 51 Entry.enc (.slice a xs.length c) xs, slA 41 51 Entry.enc (.slice a2 ys.length c2) ys]) (fun i => xs.length - i) (0) (⟨Nat.zero_le _, by omega, rfl⟩) ?_ ?_
  ·exact fun _ j => J.envJ (J.keep (.cons (by repeat constructor) (.cons (by repeat constructor) Takes.nil)) j) ⟨rfl, rfl, rfl, trivial⟩
  rintro i ⟨hile, hlen, heq⟩ kl7 hl7
  refine Run.seq fun k8 hk8 => ?_
  refine Run.seq fun k9 hk9 => ?_
  refine Run.region ?_
  show Sq _ _ _ [0, 1, 2, 3] _ _ _ _
  refine Sq.quiet (i := 0) rfl (Want.none rfl) rfl (ltN rfl) (QP.move rfl rfl).read ?_
  refine Sq.quiet (i := 1) rfl (Want.none rfl) rfl (ltN rfl) (QP.move rfl rfl).read ?_
  refine Sq.quiet (i := 2) rfl (Want.none rfl) rfl (ltN rfl) (QP.len rfl rfl rfl Try.underlying22).read ?_
  refine Sq.quiet (i := 3) rfl (Want.none rfl) rfl (ltN rfl) (QP.lss rfl rfl rfl).read ?_
  refine J.caseD (fun c14 => ?_) (fun c14 => ?_)
  ·skip
   refine Sq.nil ?_
   refine hk9 _ _ ?_
   refine Run.cond_t rfl ?_
   refine Run.skip ?_
   refine hk8 _ _ ?_
   refine Run.seq fun k10 hk10 => ?_
   refine Run.block ?_
   refine Run.seq fun k11 hk11 => ?_
   refine Run.regionD (M := [0, 0, 3, 7, 0, 0, 48, 112, 255]) (q := 511) (r := 136) (by kernel_rfl) ?_
   obtain ⟨x, hx⟩ : ∃ x, xs[i]? = some x := ⟨_, List.getElem?_eq_getElem (by omega)⟩
   obtain ⟨y, hy⟩ : ∃ y, ys[i]? = some y := ⟨_, List.getElem?_eq_getElem (by omega)⟩
   obtain ⟨b0, o0, rfl⟩ := h1.get (by omega)
   obtain ⟨b1, o1, rfl⟩ := h2.get (by omega)
   refine Dw.pure (i := 0) rfl (by kernel_rfl) (Want.none rfl) rfl (ltN rfl) (QP.move rfl rfl) ?_
   refine Dw.pure (i := 1) rfl (by kernel_rfl) (Want.none rfl) rfl (ltN rfl) (QP.move rfl rfl) ?_
   refine Dw.pure (i := 2) rfl (by kernel_rfl) (Want.none rfl) rfl (ltN rfl) (QP.indexAddr rfl rfl rfl Try.underlying22 z41 (by first | omega | (simp <;> omega)) (by first | omega | (simp <;> omega))) ?_
   refine Dw.read (i := 3) rfl (by kernel_rfl) (Want.none rfl) rfl (ltN rfl) (QR.loadSl rfl rfl g41 Entry.enc_len (SlAt.own Entry.enc_len (by repeat constructor)) hx) ?_
   refine Dw.pure (i := 4) rfl (by kernel_rfl) (Want.none rfl) rfl (ltN rfl) (QP.move rfl rfl) ?_
   refine Dw.pure (i := 5) rfl (by kernel_rfl) (Want.none rfl) rfl (ltN rfl) (QP.move rfl rfl) ?_
   refine Dw.pure (i := 6) rfl (by kernel_rfl) (Want.none rfl) rfl (ltN rfl) (QP.indexAddr rfl rfl rfl Try.underlying22 z41 (by first | omega | (simp <;> omega)) (by first | omega | (simp <;> omega))) ?_
   refine Dw.read (i := 7) rfl (by kernel_rfl) (Want.none rfl) rfl (ltN rfl) (QR.loadSl rfl rfl g41 Entry.enc_len (SlAt.own Entry.enc_len (by repeat constructor)) hy) ?_
   refine Dw.pure (i := 8) rfl (by kernel_rfl) (Want.none rfl) rfl (ltN rfl) (QP.neq_agg eq41 rfl rfl rfl) ?_
   refine J.caseD (fun c25 => ?_) (fun c25 => ?_)
   ·skip
    refine Dw.nil (by kernel_rfl) ?_
    refine hk11 _ _ ?_
    refine Run.cond_t rfl ?_
    refine Run.seq fun k12 hk12 => ?_
    refine Run.region ?_
    show Sq _ _ _ [0] _ _ _ _
    refine Sq.quiet (i := 0) rfl (Want.none rfl) rfl (ltN rfl) (QP.assign rfl rfl).read ?_
    refine Sq.nil ?_
    refine hk12 _ _ ?_
    refine Run.ret ?_
    exact J.ends (res_tmp rfl rfl) (.cons (by repeat constructor) (.cons (by repeat constructor) Takes.nil)) ⟨by rw [decide_eq_false]; intro h; subst h; rw [hx] at hy; cases hy; exact c25 rfl, rfl⟩
   ·skip
    refine Dw.nil (by kernel_rfl) ?_
    refine hk11 _ _ ?_
    refine Run.cond_f rfl ?_
    refine Run.skip ?_
    refine hk10 _ _ ?_
    refine Run.region ?_
    show Sq _ _ _ [0, 1, 2] _ _ _ _
    refine Sq.quiet (i := 0) rfl (Want.none rfl) rfl (ltN rfl) (QP.move rfl rfl).read ?_
    refine Sq.quiet (i := 1) rfl (Want.none rfl) rfl (ltN rfl) (QP.add64 rfl rfl rfl (by first | omega | (simp <;> omega)) (by first | omega | (simp <;> omega))).read ?_
    refine Sq.quiet (i := 2) rfl (Want.none rfl) rfl (ltN rfl) (QP.assign rfl rfl).read ?_
    refine Sq.nil ?_
    exact J.envJ (J.keep (.cons (by repeat constructor) (.cons (by repeat constructor) Takes.nil)) (hl7 (i + 1) (⟨by omega, hlen, by rw [List.take_add_one, List.take_add_one, heq, hx, hy, show x = y by simpa using c25]⟩) (by omega))) ⟨rfl, rfl, rfl, trivial⟩
  ·skip
   refine Sq.nil ?_
   refine hk9 _ _ ?_
   refine Run.cond_f rfl ?_
   refine Run.exit rfl ?_
   refine hk5 _ _ ?_
   refine Run.seq fun k13 hk13 => ?_
   refine Run.region ?_
   show Sq _ _ _ [0] _ _ _ _
   refine Sq.quiet (i := 0) rfl (Want.none rfl) rfl (ltN rfl) (QP.assign rfl rfl).read ?_
   refine Sq.nil ?_
   refine hk13 _ _ ?_
   refine Run.ret ?_
   exact J.ends (res_tmp rfl rfl) (.cons (by repeat constructor) (.cons (by repeat constructor) Takes.nil)) ⟨by rw [decide_eq_true]; rw [List.take_of_length_le (by omega), List.take_of_length_le (by omega)] at heq; exact heq, rfl⟩
end Slb
