/- R15: a part of the proof that a law of this package holds for every input; no condition. -/
import Derived.Test.YtfjmefldilponaaR12
import Derived.Test.YtfjmefldilponaaB23
namespace Slb
open Go Go.Proofs
set_option maxRecDepth 20000
theorem indexP (F : Fr) {a : Option Addr} {xs : List Pair} {c : Nat} (hlen : xs.length ≤ 4294967296) (ha : ArgSl F a 34 Pair.enc xs) (p : Pair) : Spec Try.prog 61 #[.slice a xs.length c, .agg (Pair.enc p).toArray] [] F (fun v S => S = [] ∧ ∃ n : Int, v = .int .i64 n ∧ (0 ≤ n ↔ p ∈ xs)) := by
 refine Spec.intro (N := 19) (args := [.slice a xs.length c, .agg (Pair.enc p).toArray]) Try.func61 rfl rfl (by simp) ?_
 refine Run.seq fun k1 hk1 => ?_
 refine Run.region ?_
 show Sq _ _ _ [0, 1] _ _ _ _
 refine Sq.eff (i := 0) rfl (Want.none rfl) rfl (ltN rfl) (EF.boxA rfl rfl) ?_
 rintro _ _ ⟨b3, rfl, rfl⟩
 refine Sq.quiet (i := 1) rfl (Want.none rfl) rfl (ltN rfl) (QP.assign rfl rfl).read ?_
 refine Sq.nil ?_
 refine hk1 _ _ ?_
 refine Run.seq fun k2 hk2 => ?_
 refine Run.seq fun k3 hk3 => ?_
 refine Run.region ?_
 show Sq _ _ _ [0, 1, 2] _ _ _ _
 refine Sq.quiet (i := 0) rfl (Want.none rfl) rfl (ltN rfl) (QP.move rfl rfl).read ?_
 refine Sq.quiet (i := 1) rfl (Want.none rfl) rfl (ltN rfl) (QP.len rfl rfl rfl Try.underlying43).read ?_
 refine Sq.quiet (i := 2) rfl (Want.none rfl) rfl (ltN rfl) (QP.move rfl rfl).read ?_
 refine Sq.nil ?_
 refine hk3 _ _ ?_
 refine Run.block ?_
 refine Run.loop1 (fun (i : Nat) => i ≤ xs.length ∧ p ∉ xs.take i) (fun i => .cons 0 (.slice a xs.length c) (.cons 3 (.pointer (some ⟨b3, 0, none⟩)) (.cons 7 (.int .i64 xs.length) (.cons 8 (.int .i64 i) (.nil))))) (fun i => [blk b3 (Pair.enc p) 32]) (fun i => xs.length - i) (0) (⟨Nat.zero_le _, by simp⟩) ?_ ?_
 ·exact fun _ j => J.envJ (J.keep (.cons (by repeat constructor) Takes.nil) j) ⟨rfl, rfl, rfl, rfl, trivial⟩
 rintro i ⟨hile, hno⟩ kl4 hl4
 refine Run.seq fun k5 hk5 => ?_
 refine Run.region ?_
 show Sq _ _ _ [0] _ _ _ _
 refine Sq.quiet (i := 0) rfl (Want.none rfl) rfl (ltN rfl) (QP.lss rfl rfl rfl).read ?_
 refine J.caseD (fun c9 => ?_) (fun c9 => ?_)
 ·skip
  refine Sq.nil ?_
  refine hk5 _ _ ?_
  refine Run.seq fun k6 hk6 => ?_
  refine Run.cond_t rfl ?_
  refine Run.skip ?_
  refine hk6 _ _ ?_
  refine Run.seq fun k7 hk7 => ?_
  refine Run.block ?_
  refine Run.seq fun k8 hk8 => ?_
  refine Run.region ?_
  show Sq _ _ _ [0, 1] _ _ _ _
  have hlt : i < xs.length := by omega
  obtain ⟨x, hi⟩ : ∃ x, xs[i]? = some x := ⟨_, List.getElem?_eq_getElem hlt⟩
  obtain ⟨b0, o0, rfl, hs0⟩ := ha.get (by omega)
  refine Sq.quiet (i := 0) rfl (Want.none rfl) rfl (ltN rfl) (QP.move rfl rfl).read ?_
  refine Sq.quiet (i := 1) rfl (Want.none rfl) rfl (ltN rfl) (QP.assign rfl rfl).read ?_
  refine Sq.nil ?_
  refine hk8 _ _ ?_
  refine Run.seq fun k9 hk9 => ?_
  refine Run.regionD (M := [0, 0, 0, 6, 14, 31]) (q := 63) (r := 17) (by kernel_rfl) ?_
  refine Dw.read (i := 0) rfl (by kernel_rfl) (Want.none rfl) rfl (ltN rfl) (QR.load rfl rfl g32 (Pair.enc_sub _)) ?_
  refine Dw.pure (i := 1) rfl (by kernel_rfl) (Want.none rfl) rfl (ltN rfl) (QP.move rfl rfl) ?_
  refine Dw.pure (i := 2) rfl (by kernel_rfl) (Want.none rfl) rfl (ltN rfl) (QP.move rfl rfl) ?_
  refine Dw.pure (i := 3) rfl (by kernel_rfl) (Want.none rfl) rfl (ltN rfl) (QP.indexAddr rfl rfl rfl Try.underlying43 z32 (by first | omega | (simp <;> omega)) (by first | omega | (simp <;> omega))) ?_
  refine Dw.read (i := 4) rfl (by kernel_rfl) (Want.none rfl) rfl (ltN rfl) (QR.loadSl rfl rfl g32 Pair.enc_len (hs0 _) hi) ?_
  refine Dw.pure (i := 5) rfl (by kernel_rfl) (Want.none rfl) rfl (ltN rfl) (QP.eql_agg eq32 rfl rfl rfl) ?_
  refine J.caseD (fun c16 => ?_) (fun c16 => ?_)
  ·skip
   refine Dw.nil (by kernel_rfl) ?_
   refine hk9 _ _ ?_
   refine Run.cond_t rfl ?_
   refine Run.seq fun k10 hk10 => ?_
   refine Run.region ?_
   show Sq _ _ _ [0, 1] _ _ _ _
   refine Sq.quiet (i := 0) rfl (Want.none rfl) rfl (ltN rfl) (QP.move rfl rfl).read ?_
   refine Sq.quiet (i := 1) rfl (Want.none rfl) rfl (ltN rfl) (QP.assign rfl rfl).read ?_
   refine Sq.nil ?_
   refine hk10 _ _ ?_
   refine Run.ret ?_
   exact J.ends (res_tmp rfl rfl) Takes.nil ⟨rfl, _, rfl, ⟨fun _ => by rw [c16]; exact List.mem_of_getElem? hi, fun _ => by omega⟩⟩
  ·skip
   refine Dw.nil (by kernel_rfl) ?_
   refine hk9 _ _ ?_
   refine Run.cond_f rfl ?_
   refine Run.skip ?_
   refine hk7 _ _ ?_
   refine Run.region ?_
   show Sq _ _ _ [0, 1] _ _ _ _
   refine Sq.quiet (i := 0) rfl (Want.none rfl) rfl (ltN rfl) (QP.add64 rfl rfl rfl (by first | omega | (simp <;> omega)) (by first | omega | (simp <;> omega))).read ?_
   refine Sq.quiet (i := 1) rfl (Want.none rfl) rfl (ltN rfl) (QP.move rfl rfl).read ?_
   refine Sq.nil ?_
   exact J.envJ (J.keep (.cons (by repeat constructor) Takes.nil) (hl4 (i + 1) (⟨by omega, fun h => by rw [List.take_add_one, hi] at h; rcases List.mem_append.1 h with h | h; exact hno h; simp at h; exact c16 h⟩) (by omega))) ⟨rfl, rfl, rfl, rfl, trivial⟩
 ·skip
  refine Sq.nil ?_
  refine hk5 _ _ ?_
  refine Run.seq fun k11 hk11 => ?_
  refine Run.cond_f rfl ?_
  refine Run.exit rfl ?_
  refine hk2 _ _ ?_
  refine Run.seq fun k12 hk12 => ?_
  refine Run.region ?_
  show Sq _ _ _ [0] _ _ _ _
  refine Sq.quiet (i := 0) rfl (Want.none rfl) rfl (ltN rfl) (QP.assign rfl rfl).read ?_
  refine Sq.nil ?_
  refine hk12 _ _ ?_
  refine Run.ret ?_
  exact J.ends (res_tmp rfl rfl) Takes.nil ⟨rfl, _, rfl, ⟨fun h => by omega, fun h => by rw [List.take_of_length_le (by omega)] at hno; exact absurd h hno⟩⟩

theorem containsP (F : Fr) {a : Option Addr} {xs : List Pair} {c : Nat} (hlen : xs.length ≤ 4294967296) (ha : ArgSl F a 34 Pair.enc xs) (p : Pair) : Spec Try.prog 51 #[.slice a xs.length c, .agg (Pair.enc p).toArray] [] F (fun v S => v = .bool (decide (p ∈ xs)) ∧ S = []) := by
 refine Spec.intro (N := 9) (args := [.slice a xs.length c, .agg (Pair.enc p).toArray]) Try.func51 rfl rfl (by simp) ?_
 refine Run.seq fun k1 hk1 => ?_
 refine Run.region ?_
 show Sq _ _ _ [0, 1] _ _ _ _
 refine Sq.eff (i := 0) rfl (Want.none rfl) rfl (ltN rfl) (EF.boxA rfl rfl) ?_
 rintro _ _ ⟨b3, rfl, rfl⟩
 refine Sq.quiet (i := 1) rfl (Want.none rfl) rfl (ltN rfl) (QP.assign rfl rfl).read ?_
 refine Sq.nil ?_
 refine hk1 _ _ ?_
 refine Run.seq fun k2 hk2 => ?_
 refine Run.region ?_
 show Sq _ _ _ [0, 1, 2, 3, 4] _ _ _ _
 refine Sq.quiet (i := 0) rfl (Want.none rfl) rfl (ltN rfl) (QP.move rfl rfl).read ?_
 refine Sq.quiet (i := 1) rfl (Want.none rfl) rfl (ltN rfl) (QR.load rfl rfl g32 (Pair.enc_sub _)) ?_
 refine Sq.eff (i := 2) rfl (Want.none rfl) rfl (ltN rfl) (EF.call rfl ce61 rfl Takes.nil (fun F' hle hr => indexP F' hlen (ha.mono hle) p)) ?_
 rintro _ _ ⟨_, ⟨rfl, n, rfl, hn⟩, rfl⟩
 refine J.app ?_
 refine Sq.quiet (i := 3) rfl (Want.none rfl) rfl (ltN rfl) (QP.geq rfl rfl rfl).read ?_
 refine Sq.quiet (i := 4) rfl (Want.none rfl) rfl (ltN rfl) (QP.assign rfl rfl).read ?_
 refine Sq.nil ?_
 refine hk2 _ _ ?_
 refine Run.ret ?_
 exact J.ends (res_tmp rfl rfl) Takes.nil ⟨congrArg Value.bool (decide_eq_decide.2 hn), rfl⟩

theorem indexA (F : Fr) {a : Option Addr} {xs : List (Bs 16)} {c : Nat} (hlen : xs.length ≤ 4294967296) (ha : ArgSl F a 16 Bs.enc xs) (p : (Bs 16)) : Spec Try.prog 62 #[.slice a xs.length c, .agg (Bs.enc p).toArray] [] F (fun v S => S = [] ∧ ∃ n : Int, v = .int .i64 n ∧ (0 ≤ n ↔ p ∈ xs)) := by
 refine Spec.intro (N := 19) (args := [.slice a xs.length c, .agg (Bs.enc p).toArray]) Try.func62 rfl rfl (by simp) ?_
 refine Run.seq fun k1 hk1 => ?_
 refine Run.region ?_
 show Sq _ _ _ [0, 1] _ _ _ _
 refine Sq.eff (i := 0) rfl (Want.none rfl) rfl (ltN rfl) (EF.boxA rfl rfl) ?_
 rintro _ _ ⟨b3, rfl, rfl⟩
 refine Sq.quiet (i := 1) rfl (Want.none rfl) rfl (ltN rfl) (QP.assign rfl rfl).read ?_
 refine Sq.nil ?_
 refine hk1 _ _ ?_
 refine Run.seq fun k2 hk2 => ?_
 refine Run.seq fun k3 hk3 => ?_
 refine Run.region ?_
 show Sq _ _ _ [0, 1, 2] _ _ _ _
 refine Sq.quiet (i := 0) rfl (Want.none rfl) rfl (ltN rfl) (QP.move rfl rfl).read ?_
 refine Sq.quiet (i := 1) rfl (Want.none rfl) rfl (ltN rfl) (QP.len rfl rfl rfl Try.underlying89).read ?_
 refine Sq.quiet (i := 2) rfl (Want.none rfl) rfl (ltN rfl) (QP.move rfl rfl).read ?_
 refine Sq.nil ?_
 refine hk3 _ _ ?_
 refine Run.block ?_
 refine Run.loop1 (fun (i : Nat) => i ≤ xs.length ∧ p ∉ xs.take i) (fun i => .cons 0 (.slice a xs.length c) (.cons 3 (.pointer (some ⟨b3, 0, none⟩)) (.cons 7 (.int .i64 xs.length) (.cons 8 (.int .i64 i) (.nil))))) (fun i => [blk b3 (Bs.enc p) 28]) (fun i => xs.length - i) (0) (⟨Nat.zero_le _, by simp⟩) ?_ ?_
 ·exact fun _ j => J.envJ (J.keep (.cons (by repeat constructor) Takes.nil) j) ⟨rfl, rfl, rfl, rfl, trivial⟩
 rintro i ⟨hile, hno⟩ kl4 hl4
 refine Run.seq fun k5 hk5 => ?_
 refine Run.region ?_
 show Sq _ _ _ [0] _ _ _ _
 refine Sq.quiet (i := 0) rfl (Want.none rfl) rfl (ltN rfl) (QP.lss rfl rfl rfl).read ?_
 refine J.caseD (fun c9 => ?_) (fun c9 => ?_)
 ·skip
  refine Sq.nil ?_
  refine hk5 _ _ ?_
  refine Run.seq fun k6 hk6 => ?_
  refine Run.cond_t rfl ?_
  refine Run.skip ?_
  refine hk6 _ _ ?_
  refine Run.seq fun k7 hk7 => ?_
  refine Run.block ?_
  refine Run.seq fun k8 hk8 => ?_
  refine Run.region ?_
  show Sq _ _ _ [0, 1] _ _ _ _
  have hlt : i < xs.length := by omega
  obtain ⟨x, hi⟩ : ∃ x, xs[i]? = some x := ⟨_, List.getElem?_eq_getElem hlt⟩
  obtain ⟨b0, o0, rfl, hs0⟩ := ha.get (by omega)
  refine Sq.quiet (i := 0) rfl (Want.none rfl) rfl (ltN rfl) (QP.move rfl rfl).read ?_
  refine Sq.quiet (i := 1) rfl (Want.none rfl) rfl (ltN rfl) (QP.assign rfl rfl).read ?_
  refine Sq.nil ?_
  refine hk8 _ _ ?_
  refine Run.seq fun k9 hk9 => ?_
  refine Run.regionD (M := [0, 0, 0, 6, 14, 31]) (q := 63) (r := 17) (by kernel_rfl) ?_
  refine Dw.read (i := 0) rfl (by kernel_rfl) (Want.none rfl) rfl (ltN rfl) (QR.load rfl rfl g28 (Bs.sub _)) ?_
  refine Dw.pure (i := 1) rfl (by kernel_rfl) (Want.none rfl) rfl (ltN rfl) (QP.move rfl rfl) ?_
  refine Dw.pure (i := 2) rfl (by kernel_rfl) (Want.none rfl) rfl (ltN rfl) (QP.move rfl rfl) ?_
  refine Dw.pure (i := 3) rfl (by kernel_rfl) (Want.none rfl) rfl (ltN rfl) (QP.indexAddr rfl rfl rfl Try.underlying89 z28 (by first | omega | (simp <;> omega)) (by first | omega | (simp <;> omega))) ?_
  refine Dw.read (i := 4) rfl (by kernel_rfl) (Want.none rfl) rfl (ltN rfl) (QR.loadSl rfl rfl g28 Bs.len (hs0 _) hi) ?_
  refine Dw.pure (i := 5) rfl (by kernel_rfl) (Want.none rfl) rfl (ltN rfl) (QP.eql_agg eq28 rfl rfl rfl) ?_
  refine J.caseD (fun c16 => ?_) (fun c16 => ?_)
  ·skip
   refine Dw.nil (by kernel_rfl) ?_
   refine hk9 _ _ ?_
   refine Run.cond_t rfl ?_
   refine Run.seq fun k10 hk10 => ?_
   refine Run.region ?_
   show Sq _ _ _ [0, 1] _ _ _ _
   refine Sq.quiet (i := 0) rfl (Want.none rfl) rfl (ltN rfl) (QP.move rfl rfl).read ?_
   refine Sq.quiet (i := 1) rfl (Want.none rfl) rfl (ltN rfl) (QP.assign rfl rfl).read ?_
   refine Sq.nil ?_
   refine hk10 _ _ ?_
   refine Run.ret ?_
   exact J.ends (res_tmp rfl rfl) Takes.nil ⟨rfl, _, rfl, ⟨fun _ => by rw [c16]; exact List.mem_of_getElem? hi, fun _ => by omega⟩⟩
  ·skip
   refine Dw.nil (by kernel_rfl) ?_
   refine hk9 _ _ ?_
   refine Run.cond_f rfl ?_
   refine Run.skip ?_
   refine hk7 _ _ ?_
   refine Run.region ?_
   show Sq _ _ _ [0, 1] _ _ _ _
   refine Sq.quiet (i := 0) rfl (Want.none rfl) rfl (ltN rfl) (QP.add64 rfl rfl rfl (by first | omega | (simp <;> omega)) (by first | omega | (simp <;> omega))).read ?_
   refine Sq.quiet (i := 1) rfl (Want.none rfl) rfl (ltN rfl) (QP.move rfl rfl).read ?_
   refine Sq.nil ?_
   exact J.envJ (J.keep (.cons (by repeat constructor) Takes.nil) (hl4 (i + 1) (⟨by omega, fun h => by rw [List.take_add_one, hi] at h; rcases List.mem_append.1 h with h | h; exact hno h; simp at h; exact c16 h⟩) (by omega))) ⟨rfl, rfl, rfl, rfl, trivial⟩
 ·skip
  refine Sq.nil ?_
  refine hk5 _ _ ?_
  refine Run.seq fun k11 hk11 => ?_
  refine Run.cond_f rfl ?_
  refine Run.exit rfl ?_
  refine hk2 _ _ ?_
  refine Run.seq fun k12 hk12 => ?_
  refine Run.region ?_
  show Sq _ _ _ [0] _ _ _ _
  refine Sq.quiet (i := 0) rfl (Want.none rfl) rfl (ltN rfl) (QP.assign rfl rfl).read ?_
  refine Sq.nil ?_
  refine hk12 _ _ ?_
  refine Run.ret ?_
  exact J.ends (res_tmp rfl rfl) Takes.nil ⟨rfl, _, rfl, ⟨fun h => by omega, fun h => by rw [List.take_of_length_le (by omega)] at hno; exact absurd h hno⟩⟩

theorem containsA (F : Fr) {a : Option Addr} {xs : List (Bs 16)} {c : Nat} (hlen : xs.length ≤ 4294967296) (ha : ArgSl F a 16 Bs.enc xs) (p : (Bs 16)) : Spec Try.prog 53 #[.slice a xs.length c, .agg (Bs.enc p).toArray] [] F (fun v S => v = .bool (decide (p ∈ xs)) ∧ S = []) := by
 refine Spec.intro (N := 9) (args := [.slice a xs.length c, .agg (Bs.enc p).toArray]) Try.func53 rfl rfl (by simp) ?_
 refine Run.seq fun k1 hk1 => ?_
 refine Run.region ?_
 show Sq _ _ _ [0, 1] _ _ _ _
 refine Sq.eff (i := 0) rfl (Want.none rfl) rfl (ltN rfl) (EF.boxA rfl rfl) ?_
 rintro _ _ ⟨b3, rfl, rfl⟩
 refine Sq.quiet (i := 1) rfl (Want.none rfl) rfl (ltN rfl) (QP.assign rfl rfl).read ?_
 refine Sq.nil ?_
 refine hk1 _ _ ?_
 refine Run.seq fun k2 hk2 => ?_
 refine Run.region ?_
 show Sq _ _ _ [0, 1, 2, 3, 4] _ _ _ _
 refine Sq.quiet (i := 0) rfl (Want.none rfl) rfl (ltN rfl) (QP.move rfl rfl).read ?_
 refine Sq.quiet (i := 1) rfl (Want.none rfl) rfl (ltN rfl) (QR.load rfl rfl g28 (Bs.sub _)) ?_
 refine Sq.eff (i := 2) rfl (Want.none rfl) rfl (ltN rfl) (EF.call rfl ce62 rfl Takes.nil (fun F' hle hr => indexA F' hlen (ha.mono hle) p)) ?_
 rintro _ _ ⟨_, ⟨rfl, n, rfl, hn⟩, rfl⟩
 refine J.app ?_
 refine Sq.quiet (i := 3) rfl (Want.none rfl) rfl (ltN rfl) (QP.geq rfl rfl rfl).read ?_
 refine Sq.quiet (i := 4) rfl (Want.none rfl) rfl (ltN rfl) (QP.assign rfl rfl).read ?_
 refine Sq.nil ?_
 refine hk2 _ _ ?_
 refine Run.ret ?_
 exact J.ends (res_tmp rfl rfl) Takes.nil ⟨congrArg Value.bool (decide_eq_decide.2 hn), rfl⟩

theorem someF (F : Fr) {b r : Nat} {most : Int} {E : EntR} (hf : InR F b r most E) (hE : E.length ≤ 1000000) {f : FuncId} {cap : Array Value} (so : Route → Bool) (hce : CanEnter Try.prog f) (hc : ∀ F2 : Fr, PH.le F.h F2.h → ∀ e ∈ E, Spec Try.prog f ([Value.pointer (some ⟨e.2.1, 0, none⟩)] ++ cap.toList).toArray [] F2 fun v S => v = .bool (so e.2.2) ∧ S = []) : Spec Try.prog 37 #[.pointer (some ⟨b, 0, none⟩), .func (.func f) #[] cap] [mapR r (ptrs E)] F (fun v S => ∃ es, es.Perm E ∧ SortedE es ∧ S = [mapR r (ptrs E), slA 37 81 Route.enc v ((es.filter fun e => so e.2.2).map fun e => e.2.2)]) := by
 refine Spec.intro (N := 25) (args := [.pointer (some ⟨b, 0, none⟩), .func (.func f) #[] cap]) Try.func37 rfl rfl (by simp) ?_
 refine Run.seq fun k1 hk1 => ?_
 refine Run.region ?_
 show Sq _ _ _ [0] _ _ _ _
 refine J.addSl 37 81 Route.enc ?_
 refine Sq.quiet (i := 0) rfl (Want.none rfl) rfl (ltN rfl) (QP.assign rfl rfl).read ?_
 refine Sq.nil ?_
 refine hk1 _ _ ?_
 refine Run.seq fun k2 hk2 => ?_
 refine Run.seq fun k3 hk3 => ?_
 refine Run.region ?_
 show Sq _ _ _ [0, 1, 2, 3] _ _ _ _
 refine Sq.quiet (i := 0) rfl (Want.none rfl) rfl (ltN rfl) (QP.move rfl rfl).read ?_
 refine Sq.eff (i := 1) rfl (Want.none rfl) rfl (ltN rfl) (EF.call rfl ce35 rfl (.cons (by repeat constructor) Takes.nil) (fun F' hle hr => allQ F' (hf.mono hle) hE)) ?_
 rintro v8 _ ⟨_, ⟨es, hp, hs, rfl⟩, rfl⟩
 refine J.app ?_
 refine Sq.slCase (v := v8) (xs := es) (by repeat constructor) (fun a8 c8 hv8 hh8 => ?_)
 subst hv8
 have hyl : es.length = E.length := hp.length_eq
 refine Sq.quiet (i := 2) rfl (Want.none rfl) rfl (ltN rfl) (QP.len rfl rfl rfl Try.underlying80).read ?_
 refine Sq.quiet (i := 3) rfl (Want.none rfl) rfl (ltN rfl) (QP.move rfl rfl).read ?_
 refine Sq.nil ?_
 refine hk3 _ _ ?_
 refine Run.block ?_
 refine Run.loop2 (fun (i : Nat) (va : Value) => i ≤ es.length) (fun i va => .cons 0 (.pointer (some ⟨b, 0, none⟩)) (.cons 1 (.func (.func f) #[] cap) (.cons 4 (va) (.cons 8 (.slice a8 es.length c8) (.cons 9 (.int .i64 es.length) (.cons 10 (.int .i64 i) (.nil))))))) (fun i va => [mapR r (ptrs E), slA 77 1 pvE (.slice a8 es.length c8) es, slA 37 81 Route.enc va (((es.take i).filter fun e => so e.2.2).map fun e => e.2.2)]) (fun i va => es.length - i) (0) (.slice none 0 0) (Nat.zero_le _) ?_ ?_
 ·exact fun _ j => J.envJ (J.keep (.cons (by repeat constructor) (.cons (by repeat constructor) (.cons (by repeat constructor) Takes.nil))) j) ⟨rfl, rfl, rfl, rfl, rfl, rfl, trivial⟩
 rintro i va hile kl4 hl4
 refine Run.seq fun k5 hk5 => ?_
 refine Run.region ?_
 show Sq _ _ _ [0] _ _ _ _
 refine Sq.quiet (i := 0) rfl (Want.none rfl) rfl (ltN rfl) (QP.lss rfl rfl rfl).read ?_
 refine J.caseD (fun c11 => ?_) (fun c11 => ?_)
 ·skip
  refine Sq.nil ?_
  refine hk5 _ _ ?_
  refine Run.seq fun k6 hk6 => ?_
  refine Run.cond_t rfl ?_
  refine Run.skip ?_
  refine hk6 _ _ ?_
  refine Run.seq fun k7 hk7 => ?_
  refine Run.block ?_
  refine Run.seq fun k8 hk8 => ?_
  refine Run.region ?_
  show Sq _ _ _ [0, 1, 2] _ _ _ _
  have hlt : i < es.length := by omega
  obtain ⟨e, hi⟩ : ∃ e, es[i]? = some e := ⟨_, List.getElem?_eq_getElem hlt⟩
  obtain ⟨b0, o0, rfl⟩ := hh8.get (by omega)
  have hrow := hf.row e (hp.subset (List.mem_of_getElem? hi))
  have htl : (((es.take i).filter fun e => so e.2.2).map fun e => e.2.2).length ≤ 1000000 := by
    rw [List.length_map]
    have := List.length_filter_le (fun e => so e.2.2) (es.take i)
    have := List.length_take_le i es
    omega
  refine Sq.quiet (i := 0) rfl (Want.none rfl) rfl (ltN rfl) (QP.indexAddr rfl rfl rfl Try.underlying80 z77 (by first | omega | (simp <;> omega)) (by first | omega | (simp <;> omega))).read ?_
  refine Sq.quiet (i := 1) rfl (Want.none rfl) rfl (ltN rfl) (QR.loadSl1 (ev := evE) rfl rfl g77 (SlAt.own (enc := pvE) (fun _ => rfl) (by repeat constructor)) hi) ?_
  refine Sq.quiet (i := 2) rfl (Want.none rfl) rfl (ltN rfl) (QP.assign rfl rfl).read ?_
  refine Sq.nil ?_
  refine hk8 _ _ ?_
  refine Run.seq fun k9 hk9 => ?_
  refine Run.region ?_
  show Sq _ _ _ [0, 1, 2] _ _ _ _
  refine Sq.quiet (i := 0) rfl (Want.none rfl) rfl (ltN rfl) (QP.move rfl rfl).read ?_
  refine Sq.quiet (i := 1) rfl (Want.none rfl) rfl (ltN rfl) (QP.move rfl rfl).read ?_
  refine Sq.eff (i := 2) rfl (Want.none rfl) rfl (ltN rfl) (EF.callV rfl rfl hce rfl Takes.nil (fun F' hle hr => hc F' hle e (hp.subset (List.mem_of_getElem? hi)))) ?_
  rintro _ _ ⟨_, ⟨rfl, rfl⟩, rfl⟩
  refine J.app ?_
  refine J.caseB (fun c16 => ?_) (fun c16 => ?_)
  ·skip
   refine Sq.nil ?_
   refine hk9 _ _ ?_
   refine Run.cond_t rfl ?_
   refine Run.region ?_
   show Sq _ _ _ [0, 1, 2, 3, 4, 5, 6] _ _ _ _
   refine Sq.quiet (i := 0) rfl (Want.none rfl) rfl (ltN rfl) (QP.move rfl rfl).read ?_
   refine Sq.quiet (i := 1) rfl (Want.none rfl) rfl (ltN rfl) (QP.move rfl rfl).read ?_
   refine Sq.quiet (i := 2) rfl (Want.none rfl) rfl (ltN rfl) (QP.nilCheck rfl rfl).read ?_
   refine Sq.quiet (i := 3) rfl (Want.none rfl) rfl (ltN rfl) (QR.loadF rfl rfl g37 hrow (Route.enc_sub _)) ?_
   refine Sq.eff (i := 4) rfl (Want.none rfl) rfl (ltN rfl) (EF.buildSlice1 rfl Try.underlying46 z37 zero37 (by simp [Value.cells, Route.enc_len]) (by decide) rfl rfl (Route.enc_len _) (by decide)) ?_
   rintro _ _ ⟨b21, rfl, rfl⟩
   refine Sq.eff (i := 5) rfl (Want.none rfl) rfl (ltN rfl) (EF.append1 (xs := (((es.take i).filter fun e => so e.2.2).map fun e => e.2.2)) (s := e.2.2) el37 Route.enc_len Route.enc_cell rfl rfl rfl Try.underlying46 Try.underlying46 rfl rfl (by repeat constructor) (by repeat constructor) (by first | omega | (simp <;> omega))) ?_
   rintro sl22 _ rfl
   refine Sq.quiet (i := 6) rfl (Want.none rfl) rfl (ltN rfl) (QP.assign rfl rfl).read ?_
   refine Sq.nil ?_
   refine hk7 _ _ ?_
   refine Run.region ?_
   show Sq _ _ _ [0, 1] _ _ _ _
   have hx1 := fm_succ (fun e : RouteKey × (Nat × Route) => so e.2.2) (fun e => e.2.2) hi
   rw [c16] at hx1
   simp only [if_true, if_false, Bool.false_eq_true, List.append_nil] at hx1
   refine Sq.slEq (v := sl22) (by repeat constructor) hx1.symm ?_
   refine Sq.quiet (i := 0) rfl (Want.none rfl) rfl (ltN rfl) (QP.add64 rfl rfl rfl (by first | omega | (simp <;> omega)) (by first | omega | (simp <;> omega))).read ?_
   refine Sq.quiet (i := 1) rfl (Want.none rfl) rfl (ltN rfl) (QP.move rfl rfl).read ?_
   refine Sq.nil ?_
   exact J.envJ (J.keep (.cons (by repeat constructor) (.cons (by repeat constructor) (.cons (by repeat constructor) Takes.nil))) (hl4 (i + 1) (sl22) (by omega) (by omega))) ⟨rfl, rfl, rfl, rfl, rfl, rfl, trivial⟩
  ·skip
   refine Sq.nil ?_
   refine hk9 _ _ ?_
   refine Run.cond_f rfl ?_
   refine Run.skip ?_
   refine hk7 _ _ ?_
   refine Run.region ?_
   show Sq _ _ _ [0, 1] _ _ _ _
   have hx1 := fm_succ (fun e : RouteKey × (Nat × Route) => so e.2.2) (fun e => e.2.2) hi
   rw [c16] at hx1
   simp only [if_true, if_false, Bool.false_eq_true, List.append_nil] at hx1
   refine Sq.slEq (v := va) (by repeat constructor) hx1.symm ?_
   refine Sq.quiet (i := 0) rfl (Want.none rfl) rfl (ltN rfl) (QP.add64 rfl rfl rfl (by first | omega | (simp <;> omega)) (by first | omega | (simp <;> omega))).read ?_
   refine Sq.quiet (i := 1) rfl (Want.none rfl) rfl (ltN rfl) (QP.move rfl rfl).read ?_
   refine Sq.nil ?_
   exact J.envJ (J.keep (.cons (by repeat constructor) (.cons (by repeat constructor) (.cons (by repeat constructor) Takes.nil))) (hl4 (i + 1) (va) (by omega) (by omega))) ⟨rfl, rfl, rfl, rfl, rfl, rfl, trivial⟩
 ·skip
  refine Sq.nil ?_
  refine hk5 _ _ ?_
  refine Run.seq fun k10 hk10 => ?_
  refine Run.cond_f rfl ?_
  refine Run.exit rfl ?_
  refine hk2 _ _ ?_
  refine Run.seq fun k11 hk11 => ?_
  refine Run.region ?_
  show Sq _ _ _ [0, 1] _ _ _ _
  refine Sq.quiet (i := 0) rfl (Want.none rfl) rfl (ltN rfl) (QP.move rfl rfl).read ?_
  refine Sq.quiet (i := 1) rfl (Want.none rfl) rfl (ltN rfl) (QP.assign rfl rfl).read ?_
  refine Sq.nil ?_
  refine hk11 _ _ ?_
  refine Run.ret ?_
  have hty : es.take i = es := List.take_of_length_le (by omega)
  rw [hty]
  exact J.ends (res_tmp rfl rfl) (.cons (by repeat constructor) (.cons (by repeat constructor) Takes.nil)) ⟨es, hp, hs, rfl⟩

def selP (p : Pair) (s : Route) : Bool := decide (s.pair = p) && s.selected
def ofP (p : Pair) (s : Route) : Bool := decide (s.pair = p)
def dropP (j : Int) (xs : List (Bs 16)) (s : Route) : Bool := decide (s.if_.val = j) && (decide (xs.length = 0) || decide (s.from_ ∈ xs))

theorem sel1_spec (F : Fr) {c0 bp : Nat} {s : Route} (p : Pair) (hrow : F.h c0 = some (.cells (Route.enc s).toArray 37 (0, 0))) (hbp : F.h bp = some (.cells (Pair.enc p).toArray 32 (0, 0)))  : Spec Try.prog 46 #[.pointer (some ⟨c0, 0, none⟩), .pointer (some ⟨bp, 0, none⟩)] [] F (fun v S => v = .bool (selP p s) ∧ S = []) := by
 refine Spec.intro (N := 16) (args := [.pointer (some ⟨c0, 0, none⟩), .pointer (some ⟨bp, 0, none⟩)]) Try.func46 rfl rfl (by simp) ?_
 refine Run.seq fun k1 hk1 => ?_
 refine Run.region ?_
 show Sq _ _ _ [0] _ _ _ _
 refine Sq.quiet (i := 0) rfl (Want.none rfl) rfl (ltN rfl) (QP.assign rfl rfl).read ?_
 refine Sq.nil ?_
 refine hk1 _ _ ?_
 refine Run.seq fun k2 hk2 => ?_
 refine Run.regionD (M := [0, 1, 3, 7, 0, 31, 63, 127, 255, 511, 1023, 2047, 4095]) (q := 4095) (r := 1048) (by kernel_rfl) ?_
 refine Dw.pure (i := 0) rfl (by kernel_rfl) (Want.none rfl) rfl (ltN rfl) (QP.move rfl rfl) ?_
 refine Dw.pure (i := 1) rfl (by kernel_rfl) (Want.none rfl) rfl (ltN rfl) (QP.nilCheck rfl rfl) ?_
 refine Dw.pure (i := 2) rfl (by kernel_rfl) (Want.none rfl) rfl (ltN rfl) (QP.fieldAddr rfl rfl f37_0) ?_
 refine Dw.read (i := 3) rfl (by kernel_rfl) (Want.none rfl) rfl (ltN rfl) (QR.loadF rfl rfl g32 hrow (Route.sub_pair _)) ?_
 refine Dw.read (i := 4) rfl (by kernel_rfl) (Want.none rfl) rfl (ltN rfl) (QR.loadF rfl rfl g32 hbp (Pair.enc_sub _)) ?_
 refine Dw.pure (i := 5) rfl (by kernel_rfl) (Want.none rfl) rfl (ltN rfl) (QP.eql_agg eq32 rfl rfl rfl) ?_
 refine J.caseD (fun c9 => ?_) (fun c9 => ?_)
 ·skip
  refine Dw.pure (i := 6) rfl (by kernel_rfl) (Want.none rfl) rfl (ltN rfl) (QP.move rfl rfl) ?_
  refine Dw.pure (i := 7) rfl (by kernel_rfl) (Want.yes rfl rfl rfl rfl) rfl (ltN rfl) (QP.move rfl rfl) ?_
  refine Dw.pure (i := 8) rfl (by kernel_rfl) (Want.yes rfl rfl rfl rfl) rfl (ltN rfl) (QP.nilCheck rfl rfl) ?_
  refine Dw.pure (i := 9) rfl (by kernel_rfl) (Want.yes rfl rfl rfl rfl) rfl (ltN rfl) (QP.fieldAddr rfl rfl f37_10) ?_
  refine Dw.read (i := 10) rfl (by kernel_rfl) (Want.yes rfl rfl rfl rfl) rfl (ltN rfl) (QR.load1F rfl rfl g4 hrow (Route.sub_selected _)) ?_
  refine Dw.pure (i := 11) rfl (by kernel_rfl) (Want.none rfl) rfl (ltN rfl) (QP.pick_t rfl rfl rfl) ?_
  refine Dw.eff (i := 12) (by kernel_rfl) (by kernel_rfl) ?_
  refine One.mk (o := _) (l := []) rfl (by kernel_rfl) (Want.none rfl) rfl (ltN rfl) ((QP.assign rfl rfl).eff) (by kernel_rfl) ?_
  rintro _ _ ⟨rfl, rfl⟩
  refine ⟨fun _ h => (by cases h), ?_⟩
  refine Dw.nil (by kernel_rfl) ?_
  refine hk2 _ _ ?_
  refine Run.ret ?_
  exact J.ends (res_tmp rfl rfl) Takes.nil ⟨by simp_all [selP], rfl⟩
 ·skip
  refine Dw.pure (i := 6) rfl (by kernel_rfl) (Want.none rfl) rfl (ltN rfl) (QP.move rfl rfl) ?_
  refine Dw.skip (i := 7) rfl (by kernel_rfl) (Want.no rfl rfl rfl rfl) rfl (ltN rfl) ?_
  refine Dw.skip (i := 8) rfl (by kernel_rfl) (Want.no rfl rfl rfl rfl) rfl (ltN rfl) ?_
  refine Dw.skip (i := 9) rfl (by kernel_rfl) (Want.no rfl rfl rfl rfl) rfl (ltN rfl) ?_
  refine Dw.skip (i := 10) rfl (by kernel_rfl) (Want.no rfl rfl rfl rfl) rfl (ltN rfl) ?_
  refine Dw.pure (i := 11) rfl (by kernel_rfl) (Want.none rfl) rfl (ltN rfl) (QP.pick_f rfl rfl rfl) ?_
  refine Dw.eff (i := 12) (by kernel_rfl) (by kernel_rfl) ?_
  refine One.mk (o := _) (l := []) rfl (by kernel_rfl) (Want.none rfl) rfl (ltN rfl) ((QP.assign rfl rfl).eff) (by kernel_rfl) ?_
  rintro _ _ ⟨rfl, rfl⟩
  refine ⟨fun _ h => (by cases h), ?_⟩
  refine Dw.nil (by kernel_rfl) ?_
  refine hk2 _ _ ?_
  refine Run.ret ?_
  exact J.ends (res_tmp rfl rfl) Takes.nil ⟨by simp_all [selP], rfl⟩

theorem of1_spec (F : Fr) {c0 bp : Nat} {s : Route} (p : Pair) (hrow : F.h c0 = some (.cells (Route.enc s).toArray 37 (0, 0))) (hbp : F.h bp = some (.cells (Pair.enc p).toArray 32 (0, 0)))  : Spec Try.prog 50 #[.pointer (some ⟨c0, 0, none⟩), .pointer (some ⟨bp, 0, none⟩)] [] F (fun v S => v = .bool (ofP p s) ∧ S = []) := by
 refine Spec.intro (N := 10) (args := [.pointer (some ⟨c0, 0, none⟩), .pointer (some ⟨bp, 0, none⟩)]) Try.func50 rfl rfl (by simp) ?_
 refine Run.seq fun k1 hk1 => ?_
 refine Run.region ?_
 show Sq _ _ _ [0] _ _ _ _
 refine Sq.quiet (i := 0) rfl (Want.none rfl) rfl (ltN rfl) (QP.assign rfl rfl).read ?_
 refine Sq.nil ?_
 refine hk1 _ _ ?_
 refine Run.seq fun k2 hk2 => ?_
 refine Run.regionD (M := [0, 1, 3, 7, 0, 31, 63]) (q := 63) (r := 24) (by kernel_rfl) ?_
 refine Dw.pure (i := 0) rfl (by kernel_rfl) (Want.none rfl) rfl (ltN rfl) (QP.move rfl rfl) ?_
 refine Dw.pure (i := 1) rfl (by kernel_rfl) (Want.none rfl) rfl (ltN rfl) (QP.nilCheck rfl rfl) ?_
 refine Dw.pure (i := 2) rfl (by kernel_rfl) (Want.none rfl) rfl (ltN rfl) (QP.fieldAddr rfl rfl f37_0) ?_
 refine Dw.read (i := 3) rfl (by kernel_rfl) (Want.none rfl) rfl (ltN rfl) (QR.loadF rfl rfl g32 hrow (Route.sub_pair _)) ?_
 refine Dw.read (i := 4) rfl (by kernel_rfl) (Want.none rfl) rfl (ltN rfl) (QR.loadF rfl rfl g32 hbp (Pair.enc_sub _)) ?_
 refine Dw.pure (i := 5) rfl (by kernel_rfl) (Want.none rfl) rfl (ltN rfl) (QP.eql_agg eq32 rfl rfl rfl) ?_
 refine Dw.eff (i := 6) (by kernel_rfl) (by kernel_rfl) ?_
 refine One.mk (o := _) (l := []) rfl (by kernel_rfl) (Want.none rfl) rfl (ltN rfl) ((QP.assign rfl rfl).eff) (by kernel_rfl) ?_
 rintro _ _ ⟨rfl, rfl⟩
 refine ⟨fun _ h => (by cases h), ?_⟩
 refine Dw.nil (by kernel_rfl) ?_
 refine hk2 _ _ ?_
 refine Run.ret ?_
 exact J.ends (res_tmp rfl rfl) Takes.nil ⟨rfl, rfl⟩

theorem drop1_spec (F : Fr) {c0 bj bx : Nat} {s : Route} (j : Int) {a : Option Addr} {xs : List (Bs 16)} {c : Nat} (hlen : xs.length ≤ 4294967296) (ha : ArgSl F a 16 Bs.enc xs) (hrow : F.h c0 = some (.cells (Route.enc s).toArray 37 (0, 0))) (hbj : F.h bj = some (.cells #[.int .i64 j] 3 (0, 0))) (hbx : F.h bx = some (.cells #[.slice a xs.length c] 89 (0, 0))) : Spec Try.prog 52 #[.pointer (some ⟨c0, 0, none⟩), .pointer (some ⟨bj, 0, none⟩), .pointer (some ⟨bx, 0, none⟩)] [] F (fun v S => v = .bool (dropP j xs s) ∧ S = []) := by
 refine Spec.intro (N := 24) (args := [.pointer (some ⟨c0, 0, none⟩), .pointer (some ⟨bj, 0, none⟩), .pointer (some ⟨bx, 0, none⟩)]) Try.func52 rfl rfl (by simp) ?_
 refine Run.seq fun k1 hk1 => ?_
 refine Run.region ?_
 show Sq _ _ _ [0] _ _ _ _
 refine Sq.quiet (i := 0) rfl (Want.none rfl) rfl (ltN rfl) (QP.assign rfl rfl).read ?_
 refine Sq.nil ?_
 refine hk1 _ _ ?_
 refine Run.seq fun k2 hk2 => ?_
 refine Run.regionD (M := [0, 1, 3, 7, 0, 31, 63, 127, 255, 511, 1023, 2047, 2047, 6143, 14335, 30719, 65535, 131071, 262143, 524287]) (q := 458751) (r := 34968) (by kernel_rfl) ?_
 refine Dw.pure (i := 0) rfl (by kernel_rfl) (Want.none rfl) rfl (ltN rfl) (QP.move rfl rfl) ?_
 refine Dw.pure (i := 1) rfl (by kernel_rfl) (Want.none rfl) rfl (ltN rfl) (QP.nilCheck rfl rfl) ?_
 refine Dw.pure (i := 2) rfl (by kernel_rfl) (Want.none rfl) rfl (ltN rfl) (QP.fieldAddr rfl rfl f37_1) ?_
 refine Dw.read (i := 3) rfl (by kernel_rfl) (Want.none rfl) rfl (ltN rfl) (QR.load1F rfl rfl g3 hrow (Route.sub_if_ _)) ?_
 refine Dw.read (i := 4) rfl (by kernel_rfl) (Want.none rfl) rfl (ltN rfl) (QR.load1F rfl rfl g3 hbj SubL.one) ?_
 refine Dw.pure (i := 5) rfl (by kernel_rfl) (Want.none rfl) rfl (ltN rfl) (QP.eql rfl rfl rfl) ?_
 refine J.caseD (fun c10 => ?_) (fun c10 => ?_)
 ·skip
  refine Dw.pure (i := 6) rfl (by kernel_rfl) (Want.none rfl) rfl (ltN rfl) (QP.move rfl rfl) ?_
  refine Dw.read (i := 7) rfl (by kernel_rfl) (Want.yes rfl rfl rfl rfl) rfl (ltN rfl) (QR.load1F rfl rfl g89 hbx SubL.one) ?_
  refine Dw.pure (i := 8) rfl (by kernel_rfl) (Want.yes rfl rfl rfl rfl) rfl (ltN rfl) (QP.len rfl rfl rfl Try.underlying89) ?_
  refine Dw.pure (i := 9) rfl (by kernel_rfl) (Want.yes rfl rfl rfl rfl) rfl (ltN rfl) (QP.eql rfl rfl rfl) ?_
  refine J.caseD (fun c14 => ?_) (fun c14 => ?_)
  ·skip
   refine Dw.pure (i := 10) rfl (by kernel_rfl) (Want.yes rfl rfl rfl rfl) rfl (ltN rfl) (QP.move rfl rfl) ?_
   refine Dw.skip (i := 11) rfl (by kernel_rfl) (Want.no rfl rfl rfl rfl) rfl (ltN rfl) ?_
   refine Dw.skip (i := 12) rfl (by kernel_rfl) (Want.no rfl rfl rfl rfl) rfl (ltN rfl) ?_
   refine Dw.skip (i := 13) rfl (by kernel_rfl) (Want.no rfl rfl rfl rfl) rfl (ltN rfl) ?_
   refine Dw.skip (i := 14) rfl (by kernel_rfl) (Want.no rfl rfl rfl rfl) rfl (ltN rfl) ?_
   refine Dw.skip (i := 15) rfl (by kernel_rfl) (Want.no rfl rfl rfl rfl) rfl (ltN rfl) ?_
   refine Dw.eff (i := 16) (by kernel_rfl) (by kernel_rfl) ?_
   refine One.skipD (o := _) rfl (by kernel_rfl) (Want.no rfl rfl rfl rfl) rfl (ltN rfl) ?_
   refine Dw.pure (i := 17) rfl (by kernel_rfl) (Want.yes rfl rfl rfl rfl) rfl (ltN rfl) (QP.pick_t rfl rfl rfl) ?_
   refine Dw.pure (i := 18) rfl (by kernel_rfl) (Want.none rfl) rfl (ltN rfl) (QP.pick_t rfl rfl rfl) ?_
   refine Dw.eff (i := 19) (by kernel_rfl) (by kernel_rfl) ?_
   refine One.mk (o := _) (l := []) rfl (by kernel_rfl) (Want.none rfl) rfl (ltN rfl) ((QP.assign rfl rfl).eff) (by kernel_rfl) ?_
   rintro _ _ ⟨rfl, rfl⟩
   refine ⟨fun _ h => (by cases h), ?_⟩
   refine Dw.nil (by kernel_rfl) ?_
   refine hk2 _ _ ?_
   refine Run.ret ?_
   exact J.ends (res_tmp rfl rfl) Takes.nil ⟨by simp_all [dropP], rfl⟩
  ·skip
   refine Dw.pure (i := 10) rfl (by kernel_rfl) (Want.yes rfl rfl rfl rfl) rfl (ltN rfl) (QP.move rfl rfl) ?_
   refine Dw.read (i := 11) rfl (by kernel_rfl) (Want.yes rfl rfl rfl rfl) rfl (ltN rfl) (QR.load1F rfl rfl g89 hbx SubL.one) ?_
   refine Dw.pure (i := 12) rfl (by kernel_rfl) (Want.yes rfl rfl rfl rfl) rfl (ltN rfl) (QP.move rfl rfl) ?_
   refine Dw.pure (i := 13) rfl (by kernel_rfl) (Want.yes rfl rfl rfl rfl) rfl (ltN rfl) (QP.nilCheck rfl rfl) ?_
   refine Dw.pure (i := 14) rfl (by kernel_rfl) (Want.yes rfl rfl rfl rfl) rfl (ltN rfl) (QP.fieldAddr rfl rfl f37_2) ?_
   refine Dw.read (i := 15) rfl (by kernel_rfl) (Want.yes rfl rfl rfl rfl) rfl (ltN rfl) (QR.loadF rfl rfl g28 hrow (Route.sub_from_ _)) ?_
   refine Dw.eff (i := 16) (by kernel_rfl) (by kernel_rfl) ?_
   refine One.mk (o := _) (l := []) rfl (by kernel_rfl) (Want.yes rfl rfl rfl rfl) rfl (ltN rfl) (EF.call rfl ce53 rfl Takes.nil (fun F' hle hr => containsA F' hlen (ha.mono hle) s.from_)) (by kernel_rfl) ?_
   rintro _ _ ⟨_, ⟨rfl, rfl⟩, rfl⟩
   refine ⟨fun _ h => (by cases h), ?_⟩
   refine J.app ?_
   refine Dw.pure (i := 17) rfl (by kernel_rfl) (Want.yes rfl rfl rfl rfl) rfl (ltN rfl) (QP.pick_f rfl rfl rfl) ?_
   refine Dw.pure (i := 18) rfl (by kernel_rfl) (Want.none rfl) rfl (ltN rfl) (QP.pick_t rfl rfl rfl) ?_
   refine Dw.eff (i := 19) (by kernel_rfl) (by kernel_rfl) ?_
   refine One.mk (o := _) (l := []) rfl (by kernel_rfl) (Want.none rfl) rfl (ltN rfl) ((QP.assign rfl rfl).eff) (by kernel_rfl) ?_
   rintro _ _ ⟨rfl, rfl⟩
   refine ⟨fun _ h => (by cases h), ?_⟩
   refine Dw.nil (by kernel_rfl) ?_
   refine hk2 _ _ ?_
   refine Run.ret ?_
   exact J.ends (res_tmp rfl rfl) Takes.nil ⟨by simp_all [dropP], rfl⟩
 ·skip
  refine Dw.pure (i := 6) rfl (by kernel_rfl) (Want.none rfl) rfl (ltN rfl) (QP.move rfl rfl) ?_
  refine Dw.skip (i := 7) rfl (by kernel_rfl) (Want.no rfl rfl rfl rfl) rfl (ltN rfl) ?_
  refine Dw.skip (i := 8) rfl (by kernel_rfl) (Want.no rfl rfl rfl rfl) rfl (ltN rfl) ?_
  refine Dw.skip (i := 9) rfl (by kernel_rfl) (Want.no rfl rfl rfl rfl) rfl (ltN rfl) ?_
  refine Dw.skip (i := 10) rfl (by kernel_rfl) (Want.no rfl rfl rfl rfl) rfl (ltN rfl) ?_
  refine Dw.skip (i := 11) rfl (by kernel_rfl) (Want.undef rfl rfl rfl) rfl (ltN rfl) ?_
  refine Dw.skip (i := 12) rfl (by kernel_rfl) (Want.undef rfl rfl rfl) rfl (ltN rfl) ?_
  refine Dw.skip (i := 13) rfl (by kernel_rfl) (Want.undef rfl rfl rfl) rfl (ltN rfl) ?_
  refine Dw.skip (i := 14) rfl (by kernel_rfl) (Want.undef rfl rfl rfl) rfl (ltN rfl) ?_
  refine Dw.skip (i := 15) rfl (by kernel_rfl) (Want.undef rfl rfl rfl) rfl (ltN rfl) ?_
  refine Dw.eff (i := 16) (by kernel_rfl) (by kernel_rfl) ?_
  refine One.skipD (o := _) rfl (by kernel_rfl) (Want.undef rfl rfl rfl) rfl (ltN rfl) ?_
  refine Dw.skip (i := 17) rfl (by kernel_rfl) (Want.no rfl rfl rfl rfl) rfl (ltN rfl) ?_
  refine Dw.pure (i := 18) rfl (by kernel_rfl) (Want.none rfl) rfl (ltN rfl) (QP.pick_f rfl rfl rfl) ?_
  refine Dw.eff (i := 19) (by kernel_rfl) (by kernel_rfl) ?_
  refine One.mk (o := _) (l := []) rfl (by kernel_rfl) (Want.none rfl) rfl (ltN rfl) ((QP.assign rfl rfl).eff) (by kernel_rfl) ?_
  rintro _ _ ⟨rfl, rfl⟩
  refine ⟨fun _ h => (by cases h), ?_⟩
  refine Dw.nil (by kernel_rfl) ?_
  refine hk2 _ _ ?_
  refine Run.ret ?_
  exact J.ends (res_tmp rfl rfl) Takes.nil ⟨by simp_all [dropP], rfl⟩

theorem selectedQ (F : Fr) {b r : Nat} {most : Int} {E : EntR} (hf : InR F b r most E) (hE : E.length ≤ 1000000) (p : Pair) : Spec Try.prog 22 #[.pointer (some ⟨b, 0, none⟩), .agg (Pair.enc p).toArray] [mapR r (ptrs E)] F (fun v S => ∃ es, es.Perm E ∧ SortedE es ∧ v = .tuple #[.agg (Route.enc ((((es.filter fun e => selP p e.2.2).map fun e => e.2.2).head?).getD Route.zero)).toArray, .bool (decide (0 < ((es.filter fun e => selP p e.2.2).map fun e => e.2.2).length))] ∧ S = [mapR r (ptrs E)]) := by
 refine Spec.intro (N := 17) (args := [.pointer (some ⟨b, 0, none⟩), .agg (Pair.enc p).toArray]) Try.func22 rfl rfl (by simp) ?_
 refine Run.seq fun k1 hk1 => ?_
 refine Run.region ?_
 show Sq _ _ _ [0, 1, 2] _ _ _ _
 refine Sq.eff (i := 0) rfl (Want.none rfl) rfl (ltN rfl) (EF.boxA rfl rfl) ?_
 rintro _ _ ⟨b3, rfl, rfl⟩
 refine Sq.eff (i := 1) rfl (Want.none rfl) rfl (ltN rfl) (EF.allocA (l := Route.enc Route.zero) rfl zero37) ?_
 rintro _ _ ⟨b4, rfl, rfl⟩
 refine Sq.quiet (i := 2) rfl (Want.none rfl) rfl (ltN rfl) (QP.assign rfl rfl).read ?_
 refine Sq.nil ?_
 refine hk1 _ _ ?_
 refine Run.seq fun k2 hk2 => ?_
 refine Run.region ?_
 show Sq _ _ _ [0, 1, 2, 3] _ _ _ _
 refine Sq.quiet (i := 0) rfl (Want.none rfl) rfl (ltN rfl) (QP.move rfl rfl).read ?_
 refine Sq.quiet (i := 1) rfl (Want.none rfl) rfl (ltN rfl) (QP.makeFunc rfl rfl).read ?_
 refine Sq.eff (i := 2) rfl (Want.none rfl) rfl (ltN rfl) (EF.call rfl ce37 rfl (.cons (by repeat constructor) Takes.nil) (fun F' hle hr => someF F' (hf.mono hle) hE (selP p) ce46 (fun F2 hle2 e he => sel1_spec F2 p (hle2 _ _ (hle _ _ (hf.row e he))) (hle2 _ _ (hr b3 _ (by repeat constructor)))))) ?_
 rintro v9 _ ⟨_, ⟨es, hp, hs, rfl⟩, rfl⟩
 refine J.app ?_
 refine Sq.slCase (v := v9) (xs := ((es.filter fun e => selP p e.2.2).map fun e => e.2.2)) (by repeat constructor) (fun a9 c9 hv9 hh9 => ?_)
 subst hv9
 generalize hZ : ((es.filter fun e => selP p e.2.2).map fun e => e.2.2) = ZS at hh9 ⊢
 refine Sq.quiet (i := 3) rfl (Want.none rfl) rfl (ltN rfl) (QP.assign rfl rfl).read ?_
 refine Sq.nil ?_
 refine hk2 _ _ ?_
 refine Run.seq fun k3 hk3 => ?_
 refine Run.seq fun k4 hk4 => ?_
 refine Run.region ?_
 show Sq _ _ _ [0, 1, 2] _ _ _ _
 refine Sq.quiet (i := 0) rfl (Want.none rfl) rfl (ltN rfl) (QP.move rfl rfl).read ?_
 refine Sq.quiet (i := 1) rfl (Want.none rfl) rfl (ltN rfl) (QP.len rfl rfl rfl Try.underlying46).read ?_
 refine Sq.quiet (i := 2) rfl (Want.none rfl) rfl (ltN rfl) (QP.eql rfl rfl rfl).read ?_
 refine J.caseD (fun c12 => ?_) (fun c12 => ?_)
 ·skip
  refine Sq.nil ?_
  refine hk4 _ _ ?_
  refine Run.cond_t rfl ?_
  refine Run.seq fun k5 hk5 => ?_
  refine Run.region ?_
  show Sq _ _ _ [0, 1, 2] _ _ _ _
  obtain rfl : ZS = [] := List.eq_nil_of_length_eq_zero (by omega)
  refine Sq.quiet (i := 0) rfl (Want.none rfl) rfl (ltN rfl) (QP.build (l := Route.enc Route.zero) rfl st37 rfl (by exact trivial) rfl).read ?_
  refine Sq.act (i := 1) rfl (Want.none rfl) rfl (EF.storeA rfl rfl rfl z37 (SetL.all (Route.enc_len _) (Route.enc_len _)) (Route.enc_cell _)) ?_
  rintro _ _ rfl
  refine Sq.quiet (i := 2) rfl (Want.none rfl) rfl (ltN rfl) (QP.assign rfl rfl).read ?_
  refine Sq.nil ?_
  refine hk5 _ _ ?_
  refine Run.ret ?_
  exact J.ends (res_cell2 rfl rfl g37 (Route.enc_sub _) rfl) (.cons (by repeat constructor) Takes.nil) ⟨es, hp, hs, by rw [hZ]; rfl, rfl⟩
 ·skip
  refine Sq.nil ?_
  refine hk4 _ _ ?_
  refine Run.cond_f rfl ?_
  refine Run.skip ?_
  refine hk3 _ _ ?_
  refine Run.seq fun k6 hk6 => ?_
  refine Run.region ?_
  show Sq _ _ _ [0, 1, 2, 3, 4] _ _ _ _
  obtain ⟨b0, o0, rfl⟩ := hh9.get (by omega)
  obtain ⟨m0, hm0⟩ : ∃ x, ZS[0]? = some x := ⟨_, List.getElem?_eq_getElem (by omega)⟩
  have hm1 : ZS.head? = some m0 := by rw [List.head?_eq_getElem?]; exact hm0
  have hzl : 0 < ZS.length := by omega
  refine Sq.quiet (i := 0) rfl (Want.none rfl) rfl (ltN rfl) (QP.move rfl rfl).read ?_
  refine Sq.quiet (i := 1) rfl (Want.none rfl) rfl (ltN rfl) (QP.indexAddr rfl rfl rfl Try.underlying46 z37 (by omega) (by omega)).read ?_
  refine Sq.quiet (i := 2) rfl (Want.none rfl) rfl (ltN rfl) (QR.loadSl rfl rfl g37 Route.enc_len (SlAt.own Route.enc_len (by repeat constructor)) hm0) ?_
  refine Sq.act (i := 3) rfl (Want.none rfl) rfl (EF.storeA rfl rfl rfl z37 (SetL.all (Route.enc_len _) (Route.enc_len _)) (Route.enc_cell _)) ?_
  rintro _ _ rfl
  refine Sq.quiet (i := 4) rfl (Want.none rfl) rfl (ltN rfl) (QP.assign rfl rfl).read ?_
  refine Sq.nil ?_
  refine hk6 _ _ ?_
  refine Run.ret ?_
  exact J.ends (res_cell2 rfl rfl g37 (Route.enc_sub _) rfl) (.cons (by repeat constructor) Takes.nil) ⟨es, hp, hs, by rw [hZ, hm1, decide_eq_true hzl]; rfl, rfl⟩

theorem ofQ (F : Fr) {b r : Nat} {most : Int} {E : EntR} (hf : InR F b r most E) (hE : E.length ≤ 1000000) (p : Pair) : Spec Try.prog 26 #[.pointer (some ⟨b, 0, none⟩), .agg (Pair.enc p).toArray] [mapR r (ptrs E)] F (fun v S => ∃ es, es.Perm E ∧ SortedE es ∧ S = [mapR r (ptrs E), slA 37 81 Route.enc v ((es.filter fun e => ofP p e.2.2).map fun e => e.2.2)]) := by
 refine Spec.intro (N := 8) (args := [.pointer (some ⟨b, 0, none⟩), .agg (Pair.enc p).toArray]) Try.func26 rfl rfl (by simp) ?_
 refine Run.seq fun k1 hk1 => ?_
 refine Run.region ?_
 show Sq _ _ _ [0, 1] _ _ _ _
 refine Sq.eff (i := 0) rfl (Want.none rfl) rfl (ltN rfl) (EF.boxA rfl rfl) ?_
 rintro _ _ ⟨b3, rfl, rfl⟩
 refine Sq.quiet (i := 1) rfl (Want.none rfl) rfl (ltN rfl) (QP.assign rfl rfl).read ?_
 refine Sq.nil ?_
 refine hk1 _ _ ?_
 refine Run.seq fun k2 hk2 => ?_
 refine Run.region ?_
 show Sq _ _ _ [0, 1, 2, 3] _ _ _ _
 refine Sq.quiet (i := 0) rfl (Want.none rfl) rfl (ltN rfl) (QP.move rfl rfl).read ?_
 refine Sq.quiet (i := 1) rfl (Want.none rfl) rfl (ltN rfl) (QP.makeFunc rfl rfl).read ?_
 refine Sq.eff (i := 2) rfl (Want.none rfl) rfl (ltN rfl) (EF.call rfl ce37 rfl (.cons (by repeat constructor) Takes.nil) (fun F' hle hr => someF F' (hf.mono hle) hE (ofP p) ce50 (fun F2 hle2 e he => of1_spec F2 p (hle2 _ _ (hle _ _ (hf.row e he))) (hle2 _ _ (hr b3 _ (by repeat constructor)))))) ?_
 rintro v7 _ ⟨_, ⟨es, hp, hs, rfl⟩, rfl⟩
 refine J.app ?_
 refine Sq.quiet (i := 3) rfl (Want.none rfl) rfl (ltN rfl) (QP.assign rfl rfl).read ?_
 refine Sq.nil ?_
 refine hk2 _ _ ?_
 refine Run.ret ?_
 exact J.ends (res_tmp rfl rfl) (.cons (by repeat constructor) (.cons (by repeat constructor) Takes.nil)) ⟨es, hp, hs, rfl⟩

theorem dropQ (F : Fr) {b r : Nat} {most : Int} {E : EntR} (hf : InR F b r most E) (hE : E.length ≤ 1000000) (j : Int) {a : Option Addr} {xs : List (Bs 16)} {c : Nat} (hlen : xs.length ≤ 4294967296) (ha : ArgSl F a 16 Bs.enc xs)  : Spec Try.prog 34 #[.pointer (some ⟨b, 0, none⟩), .int .i64 j, .slice a xs.length c] [mapR r (ptrs E)] F (fun v S => ∃ es, es.Perm E ∧ SortedE es ∧ S = [mapR r (ptrs (delsE (fun _ => true) keyR E ((es.filter fun e => dropP j xs e.2.2).map fun e => e.2.2))), slA 37 81 Route.enc v ((es.filter fun e => dropP j xs e.2.2).map fun e => e.2.2)]) := by
 refine Spec.intro (N := 32) (args := [.pointer (some ⟨b, 0, none⟩), .int .i64 j, .slice a xs.length c]) Try.func34 rfl rfl (by simp) ?_
 refine Run.seq fun k1 hk1 => ?_
 refine Run.region ?_
 show Sq _ _ _ [0, 1, 2] _ _ _ _
 refine Sq.eff (i := 0) rfl (Want.none rfl) rfl (ltN rfl) (EF.box1 rfl rfl rfl) ?_
 rintro _ _ ⟨b4, rfl, rfl⟩
 refine Sq.eff (i := 1) rfl (Want.none rfl) rfl (ltN rfl) (EF.box1 rfl rfl rfl) ?_
 rintro _ _ ⟨b5, rfl, rfl⟩
 refine Sq.quiet (i := 2) rfl (Want.none rfl) rfl (ltN rfl) (QP.assign rfl rfl).read ?_
 refine Sq.nil ?_
 refine hk1 _ _ ?_
 refine Run.seq fun k2 hk2 => ?_
 refine Run.region ?_
 show Sq _ _ _ [0, 1, 2, 3] _ _ _ _
 refine Sq.quiet (i := 0) rfl (Want.none rfl) rfl (ltN rfl) (QP.move rfl rfl).read ?_
 refine Sq.quiet (i := 1) rfl (Want.none rfl) rfl (ltN rfl) (QP.makeFunc rfl rfl).read ?_
 refine Sq.eff (i := 2) rfl (Want.none rfl) rfl (ltN rfl) (EF.call rfl ce37 rfl (.cons (by repeat constructor) Takes.nil) (fun F' hle hr => someF F' (hf.mono hle) hE (dropP j xs) ce52 (fun F2 hle2 e he => drop1_spec F2 j hlen ((ha.mono hle).mono hle2) (hle2 _ _ (hle _ _ (hf.row e he))) (hle2 _ _ (hr b4 _ (by repeat constructor))) (hle2 _ _ (hr b5 _ (by repeat constructor)))))) ?_
 rintro v12 _ ⟨_, ⟨es, hp, hs, rfl⟩, rfl⟩
 refine J.app ?_
 refine Sq.slCase (v := v12) (xs := ((es.filter fun e => dropP j xs e.2.2).map fun e => e.2.2)) (by repeat constructor) (fun a12 c12 hv12 hh12 => ?_)
 subst hv12
 have hZl : ((es.filter fun e => dropP j xs e.2.2).map fun e => e.2.2).length ≤ 1000000 := by
   rw [List.length_map]
   have := List.length_filter_le (fun e : RouteKey × (Nat × Route) => dropP j xs e.2.2) es
   have := hp.length_eq
   omega
 generalize hZ : ((es.filter fun e => dropP j xs e.2.2).map fun e => e.2.2) = ZS at hZl hh12 ⊢
 refine Sq.quiet (i := 3) rfl (Want.none rfl) rfl (ltN rfl) (QP.assign rfl rfl).read ?_
 refine Sq.nil ?_
 refine hk2 _ _ ?_
 refine Run.seq fun k3 hk3 => ?_
 refine Run.seq fun k4 hk4 => ?_
 refine Run.region ?_
 show Sq _ _ _ [0, 1, 2] _ _ _ _
 refine Sq.quiet (i := 0) rfl (Want.none rfl) rfl (ltN rfl) (QP.move rfl rfl).read ?_
 refine Sq.quiet (i := 1) rfl (Want.none rfl) rfl (ltN rfl) (QP.len rfl rfl rfl Try.underlying46).read ?_
 refine Sq.quiet (i := 2) rfl (Want.none rfl) rfl (ltN rfl) (QP.move rfl rfl).read ?_
 refine Sq.nil ?_
 refine hk4 _ _ ?_
 refine Run.block ?_
 refine Run.loop2 (fun (i : Nat) (Pm : List (RouteKey × Nat)) => i ≤ ZS.length ∧ Pm = ptrs (delsE (fun _ => true) keyR E (ZS.take i))) (fun i Pm => .cons 0 (.pointer (some ⟨b, 0, none⟩)) (.cons 7 (.slice a12 ZS.length c12) (.cons 13 (.slice a12 ZS.length c12) (.cons 14 (.int .i64 ZS.length) (.cons 15 (.int .i64 i) (.nil)))))) (fun i Pm => [mapR r Pm, slA 37 81 Route.enc (.slice a12 ZS.length c12) ZS]) (fun i Pm => ZS.length - i) (0) (ptrs E) (⟨Nat.zero_le _, rfl⟩) ?_ ?_
 ·exact fun _ j => J.envJ (J.keep (.cons (by repeat constructor) (.cons (by repeat constructor) Takes.nil)) j) ⟨rfl, rfl, rfl, rfl, rfl, trivial⟩
 rintro i Pm ⟨hile, hPm⟩ kl5 hl5
 refine Run.seq fun k6 hk6 => ?_
 refine Run.region ?_
 show Sq _ _ _ [0] _ _ _ _
 refine Sq.quiet (i := 0) rfl (Want.none rfl) rfl (ltN rfl) (QP.lss rfl rfl rfl).read ?_
 refine J.caseD (fun c16 => ?_) (fun c16 => ?_)
 ·skip
  refine Sq.nil ?_
  refine hk6 _ _ ?_
  refine Run.seq fun k7 hk7 => ?_
  refine Run.cond_t rfl ?_
  refine Run.skip ?_
  refine hk7 _ _ ?_
  refine Run.seq fun k8 hk8 => ?_
  refine Run.block ?_
  refine Run.seq fun k9 hk9 => ?_
  refine Run.region ?_
  show Sq _ _ _ [0, 1, 2, 3] _ _ _ _
  have hlt : i < ZS.length := by omega
  obtain ⟨s, hi⟩ : ∃ s, ZS[i]? = some s := ⟨_, List.getElem?_eq_getElem hlt⟩
  obtain ⟨b0, o0, rfl⟩ := hh12.get (by omega)
  refine Sq.quiet (i := 0) rfl (Want.none rfl) rfl (ltN rfl) (QP.indexAddr rfl rfl rfl Try.underlying46 z37 (by first | omega | (simp <;> omega)) (by first | omega | (simp <;> omega))).read ?_
  refine Sq.quiet (i := 1) rfl (Want.none rfl) rfl (ltN rfl) (QR.loadSl rfl rfl g37 Route.enc_len (SlAt.own Route.enc_len (by repeat constructor)) hi) ?_
  refine Sq.eff (i := 2) rfl (Want.none rfl) rfl (ltN rfl) (EF.allocA (l := Route.enc Route.zero) rfl zero37) ?_
  rintro _ _ ⟨b9, rfl, rfl⟩
  refine Sq.act (i := 3) rfl (Want.none rfl) rfl (EF.storeA rfl rfl rfl z37 (SetL.all (Route.enc_len _) (Route.enc_len _)) (Route.enc_cell _)) ?_
  rintro _ _ rfl
  refine Sq.nil ?_
  refine hk9 _ _ ?_
  refine Run.regionD (M := [0, 1, 3, 7, 0, 16, 0, 64, 0, 256, 1008, 2047]) (q := 2047) (r := 680) (by kernel_rfl) ?_
  refine Dw.pure (i := 0) rfl (by kernel_rfl) (Want.none rfl) rfl (ltN rfl) (QP.move rfl rfl) ?_
  refine Dw.pure (i := 1) rfl (by kernel_rfl) (Want.none rfl) rfl (ltN rfl) (QP.nilCheck rfl rfl) ?_
  refine Dw.pure (i := 2) rfl (by kernel_rfl) (Want.none rfl) rfl (ltN rfl) (QP.fieldAddr rfl rfl f76_1) ?_
  refine Dw.read (i := 3) rfl (by kernel_rfl) (Want.none rfl) rfl (ltN rfl) (QR.load1F rfl rfl g74 hf.tb (RouteTable.sub_m _)) ?_
  refine Dw.pure (i := 4) rfl (by kernel_rfl) (Want.none rfl) rfl (ltN rfl) (QP.fieldAddr rfl rfl f37_0) ?_
  refine Dw.read (i := 5) rfl (by kernel_rfl) (Want.none rfl) rfl (ltN rfl) (QR.load rfl rfl g32 (Route.sub_pair _)) ?_
  refine Dw.pure (i := 6) rfl (by kernel_rfl) (Want.none rfl) rfl (ltN rfl) (QP.fieldAddr rfl rfl f37_1) ?_
  refine Dw.read (i := 7) rfl (by kernel_rfl) (Want.none rfl) rfl (ltN rfl) (QR.load1 rfl rfl g3 (Route.sub_if_ _)) ?_
  refine Dw.pure (i := 8) rfl (by kernel_rfl) (Want.none rfl) rfl (ltN rfl) (QP.fieldAddr rfl rfl f37_2) ?_
  refine Dw.read (i := 9) rfl (by kernel_rfl) (Want.none rfl) rfl (ltN rfl) (QR.load rfl rfl g28 (Route.sub_from_ _)) ?_
  refine Dw.pure (i := 10) rfl (by kernel_rfl) (Want.none rfl) rfl (ltN rfl) (QP.build (l := RouteKey.enc ⟨((s).pair), _, ((s).from_)⟩) rfl st79 rfl (by exact ⟨(congrArg some (Pair.enc_len _).symm), ⟨rfl, ⟨(congrArg some (Bs.len _).symm), trivial⟩⟩⟩) rfl) ?_
  refine Dw.eff (i := 11) (by kernel_rfl) (by kernel_rfl) ?_
  refine One.act (o := _) (l := []) rfl (by kernel_rfl) (Want.none rfl) rfl (EF.delete key79 rfl rfl rfl rfl Try.underlying74) (by kernel_rfl) ?_
  rintro _ _ rfl
  refine ⟨fun _ h => (by cases h), ?_⟩
  refine Dw.nil (by kernel_rfl) ?_
  refine hk8 _ _ ?_
  refine Run.region ?_
  show Sq _ _ _ [0, 1] _ _ _ _
  refine Sq.quiet (i := 0) rfl (Want.none rfl) rfl (ltN rfl) (QP.add64 rfl rfl rfl (by first | omega | (simp <;> omega)) (by first | omega | (simp <;> omega))).read ?_
  refine Sq.quiet (i := 1) rfl (Want.none rfl) rfl (ltN rfl) (QP.move rfl rfl).read ?_
  refine Sq.nil ?_
  exact J.envJ (J.keep (.cons (by repeat constructor) (.cons (by repeat constructor) Takes.nil)) (hl5 (i + 1) (adel Pm (keyR s)) (⟨by omega, by rw [delsE_succ _ _ E hi, hPm]; exact (ptrs_adel _ _).symm⟩) (by omega))) ⟨rfl, rfl, rfl, rfl, rfl, trivial⟩
 ·skip
  refine Sq.nil ?_
  refine hk6 _ _ ?_
  refine Run.seq fun k10 hk10 => ?_
  refine Run.cond_f rfl ?_
  refine Run.exit rfl ?_
  refine hk3 _ _ ?_
  refine Run.seq fun k11 hk11 => ?_
  refine Run.region ?_
  show Sq _ _ _ [0, 1] _ _ _ _
  refine Sq.quiet (i := 0) rfl (Want.none rfl) rfl (ltN rfl) (QP.move rfl rfl).read ?_
  refine Sq.quiet (i := 1) rfl (Want.none rfl) rfl (ltN rfl) (QP.assign rfl rfl).read ?_
  refine Sq.nil ?_
  refine hk11 _ _ ?_
  refine Run.ret ?_
  have hty : ZS.take i = ZS := List.take_of_length_le (by omega)
  rw [hty] at hPm
  subst hPm hZ
  exact J.ends (res_tmp rfl rfl) (.cons (by repeat constructor) (.cons (by repeat constructor) Takes.nil)) ⟨es, hp, hs, rfl⟩

theorem pairsQ (F : Fr) {b r : Nat} {most : Int} {E : EntR} (hf : InR F b r most E) (hE : E.length ≤ 1000000) : Spec Try.prog 29 #[.pointer (some ⟨b, 0, none⟩)] [mapR r (ptrs E)] F (fun v S => ∃ es, es.Perm E ∧ SortedE es ∧ S = [mapR r (ptrs E), slA 32 34 Pair.enc v (compL (es.map fun e => e.2.2.pair))]) := by
 refine Spec.intro (N := 22) (args := [.pointer (some ⟨b, 0, none⟩)]) Try.func29 rfl rfl (by simp) ?_
 refine Run.seq fun k1 hk1 => ?_
 refine Run.region ?_
 show Sq _ _ _ [0] _ _ _ _
 refine J.addSl 32 34 Pair.enc ?_
 refine Sq.quiet (i := 0) rfl (Want.none rfl) rfl (ltN rfl) (QP.assign rfl rfl).read ?_
 refine Sq.nil ?_
 refine hk1 _ _ ?_
 refine Run.seq fun k2 hk2 => ?_
 refine Run.seq fun k3 hk3 => ?_
 refine Run.region ?_
 show Sq _ _ _ [0, 1, 2, 3] _ _ _ _
 refine Sq.quiet (i := 0) rfl (Want.none rfl) rfl (ltN rfl) (QP.move rfl rfl).read ?_
 refine Sq.eff (i := 1) rfl (Want.none rfl) rfl (ltN rfl) (EF.call rfl ce35 rfl (.cons (by repeat constructor) Takes.nil) (fun F' hle hr => allQ F' (hf.mono hle) hE)) ?_
 rintro v6 _ ⟨_, ⟨es, hp, hs, rfl⟩, rfl⟩
 refine J.app ?_
 refine Sq.slCase (v := v6) (xs := es) (by repeat constructor) (fun a6 c6 hv6 hh6 => ?_)
 subst hv6
 have hyl : es.length = E.length := hp.length_eq
 refine Sq.quiet (i := 2) rfl (Want.none rfl) rfl (ltN rfl) (QP.len rfl rfl rfl Try.underlying80).read ?_
 refine Sq.quiet (i := 3) rfl (Want.none rfl) rfl (ltN rfl) (QP.move rfl rfl).read ?_
 refine Sq.nil ?_
 refine hk3 _ _ ?_
 refine Run.block ?_
 refine Run.loop2 (fun (i : Nat) (va : Value) => i ≤ es.length) (fun i va => .cons 2 (va) (.cons 6 (.slice a6 es.length c6) (.cons 7 (.int .i64 es.length) (.cons 8 (.int .i64 i) (.nil))))) (fun i va => [mapR r (ptrs E), slA 77 1 pvE (.slice a6 es.length c6) es, slA 32 34 Pair.enc va ((es.take i).map fun e => e.2.2.pair)]) (fun i va => es.length - i) (0) (.slice none 0 0) (Nat.zero_le _) ?_ ?_
 ·exact fun _ j => J.envJ (J.keep (.cons (by repeat constructor) (.cons (by repeat constructor) (.cons (by repeat constructor) Takes.nil))) j) ⟨rfl, rfl, rfl, rfl, trivial⟩
 rintro i va hile kl4 hl4
 refine Run.seq fun k5 hk5 => ?_
 refine Run.region ?_
 show Sq _ _ _ [0] _ _ _ _
 refine Sq.quiet (i := 0) rfl (Want.none rfl) rfl (ltN rfl) (QP.lss rfl rfl rfl).read ?_
 refine J.caseD (fun c9 => ?_) (fun c9 => ?_)
 ·skip
  refine Sq.nil ?_
  refine hk5 _ _ ?_
  refine Run.seq fun k6 hk6 => ?_
  refine Run.cond_t rfl ?_
  refine Run.skip ?_
  refine hk6 _ _ ?_
  refine Run.seq fun k7 hk7 => ?_
  refine Run.block ?_
  refine Run.seq fun k8 hk8 => ?_
  refine Run.region ?_
  show Sq _ _ _ [0, 1, 2] _ _ _ _
  have hlt : i < es.length := by omega
  obtain ⟨e, hi⟩ : ∃ e, es[i]? = some e := ⟨_, List.getElem?_eq_getElem hlt⟩
  obtain ⟨b0, o0, rfl⟩ := hh6.get (by omega)
  have hrow := hf.row e (hp.subset (List.mem_of_getElem? hi))
  have htl : ((es.take i).map fun e => e.2.2.pair).length ≤ 1000000 := by simp; omega
  refine Sq.quiet (i := 0) rfl (Want.none rfl) rfl (ltN rfl) (QP.indexAddr rfl rfl rfl Try.underlying80 z77 (by first | omega | (simp <;> omega)) (by first | omega | (simp <;> omega))).read ?_
  refine Sq.quiet (i := 1) rfl (Want.none rfl) rfl (ltN rfl) (QR.loadSl1 (ev := evE) rfl rfl g77 (SlAt.own (enc := pvE) (fun _ => rfl) (by repeat constructor)) hi) ?_
  refine Sq.quiet (i := 2) rfl (Want.none rfl) rfl (ltN rfl) (QP.assign rfl rfl).read ?_
  refine Sq.nil ?_
  refine hk8 _ _ ?_
  refine Run.region ?_
  show Sq _ _ _ [0, 1, 2, 3, 4, 5, 6, 7] _ _ _ _
  refine Sq.quiet (i := 0) rfl (Want.none rfl) rfl (ltN rfl) (QP.move rfl rfl).read ?_
  refine Sq.quiet (i := 1) rfl (Want.none rfl) rfl (ltN rfl) (QP.move rfl rfl).read ?_
  refine Sq.quiet (i := 2) rfl (Want.none rfl) rfl (ltN rfl) (QP.nilCheck rfl rfl).read ?_
  refine Sq.quiet (i := 3) rfl (Want.none rfl) rfl (ltN rfl) (QP.fieldAddr rfl rfl f37_0).read ?_
  refine Sq.quiet (i := 4) rfl (Want.none rfl) rfl (ltN rfl) (QR.loadF rfl rfl g32 hrow (Route.sub_pair _)) ?_
  refine Sq.eff (i := 5) rfl (Want.none rfl) rfl (ltN rfl) (EF.buildSlice1 rfl Try.underlying43 z32 zero32 (by simp [Value.cells, Pair.enc_len]) (by decide) rfl rfl (Pair.enc_len _) (by decide)) ?_
  rintro _ _ ⟨b17, rfl, rfl⟩
  refine Sq.eff (i := 6) rfl (Want.none rfl) rfl (ltN rfl) (EF.append1 (xs := ((es.take i).map fun e => e.2.2.pair)) (s := (e.2.2).pair) el32 Pair.enc_len Pair.enc_cell rfl rfl rfl Try.underlying43 Try.underlying43 rfl rfl (by repeat constructor) (by repeat constructor) (by first | omega | (simp <;> omega))) ?_
  rintro sl18 _ rfl
  refine Sq.quiet (i := 7) rfl (Want.none rfl) rfl (ltN rfl) (QP.assign rfl rfl).read ?_
  refine Sq.nil ?_
  refine hk7 _ _ ?_
  refine Run.region ?_
  show Sq _ _ _ [0, 1] _ _ _ _
  refine Sq.quiet (i := 0) rfl (Want.none rfl) rfl (ltN rfl) (QP.add64 rfl rfl rfl (by first | omega | (simp <;> omega)) (by first | omega | (simp <;> omega))).read ?_
  refine Sq.quiet (i := 1) rfl (Want.none rfl) rfl (ltN rfl) (QP.move rfl rfl).read ?_
  refine Sq.nil ?_
  refine J.slEq (v := sl18) (by repeat constructor) (show ((es.take i).map fun e => e.2.2.pair) ++ [e.2.2.pair] = (es.take (i + 1)).map (fun e => e.2.2.pair) by rw [List.take_add_one, hi]; simp) ?_
  exact J.envJ (J.keep (.cons (by repeat constructor) (.cons (by repeat constructor) (.cons (by repeat constructor) Takes.nil))) (hl4 (i + 1) (sl18) (by omega) (by omega))) ⟨rfl, rfl, rfl, rfl, trivial⟩
 ·skip
  refine Sq.nil ?_
  refine hk5 _ _ ?_
  refine Run.seq fun k9 hk9 => ?_
  refine Run.cond_f rfl ?_
  refine Run.exit rfl ?_
  refine hk2 _ _ ?_
  refine Run.seq fun k10 hk10 => ?_
  refine Run.region ?_
  show Sq _ _ _ [0, 1, 2] _ _ _ _
  have hty : es.take i = es := List.take_of_length_le (by omega)
  rw [hty]
  refine Sq.slCase (v := va) (xs := es.map fun e => e.2.2.pair) (by repeat constructor) (fun av cv hva hhv => ?_)
  subst hva
  refine Sq.quiet (i := 0) rfl (Want.none rfl) rfl (ltN rfl) (QP.move rfl rfl).read ?_
  refine Sq.eff (i := 1) rfl (Want.none rfl) rfl (ltN rfl) (EF.call rfl ce36 rfl (.cons (by repeat constructor) Takes.nil) (fun F' hle hr => compactP F' (xs := es.map fun e => e.2.2.pair) (by rw [List.length_map]; omega))) ?_
  rintro _ _ ⟨_, ⟨rfl, rfl⟩, rfl⟩
  refine J.app ?_
  refine Sq.quiet (i := 2) rfl (Want.none rfl) rfl (ltN rfl) (QP.assign rfl rfl).read ?_
  refine Sq.nil ?_
  refine hk10 _ _ ?_
  refine Run.ret ?_
  exact J.ends (res_tmp rfl rfl) (.cons (by repeat constructor) (.cons (by repeat constructor) Takes.nil)) ⟨es, hp, hs, rfl⟩
end Slb
