/- Q12: a part of the proof that a law of this package holds for every input; no condition. -/
import Derived.Test.YtgelmgaackblcaaQ11
namespace Slb
open Go Go.Proofs
set_option maxRecDepth 20000
theorem indexP_spec (F : Fr) {a : Option Addr} {xs : List Pair} {c : Nat} (hlen : xs.length ≤ 4294967296) (ha : ArgSl F a 34 Pair.enc xs) (p : Pair) : Spec Try.prog 47 #[.slice a xs.length c, .agg (Pair.enc p).toArray] [] F (fun v S => S = [] ∧ ∃ n : Int, v = .int .i64 n ∧ (0 ≤ n ↔ p ∈ xs)) := by
  refine Spec.intro (N := 19) (args := [.slice a xs.length c, .agg (Pair.enc p).toArray]) Try.func47 rfl rfl (by simp) ?_
  refine Run.seq fun k1 hk1 => ?_
  refine Run.region ?_
  show Sq _ _ _ [0, 1] _ _ _ _
  refine Sq.eff (i := 0) rfl (Want.none rfl) rfl (ltN rfl) (EF.boxA rfl rfl) ?_
  rintro _ _ ⟨b3, rfl, rfl⟩
  refine Sq.quiet (i := 1) rfl (Want.none rfl) rfl (ltN rfl) (QP.assign rfl rfl).read ?_
  refine Sq.nil ?_
  refine hk1 _ _ ?_
  refine Run.seq fun k2 hk2 => ?_
  refine Run.seq fun k3 hk3 => ?_
  refine Run.region ?_
  show Sq _ _ _ [0, 1, 2] _ _ _ _
  refine Sq.quiet (i := 0) rfl (Want.none rfl) rfl (ltN rfl) (QP.move rfl rfl).read ?_
  refine Sq.quiet (i := 1) rfl (Want.none rfl) rfl (ltN rfl) (QP.len rfl rfl rfl Try.underlying83).read ?_
  refine Sq.quiet (i := 2) rfl (Want.none rfl) rfl (ltN rfl) (QP.move rfl rfl).read ?_
  refine Sq.nil ?_
  refine hk3 _ _ ?_
  refine Run.block ?_
  refine Run.loop1 (fun (i : Nat) => i ≤ xs.length ∧ p ∉ xs.take i) (fun i => .cons 0 (.slice a xs.length c) (.cons 3 (.pointer (some ⟨b3, 0, none⟩)) (.cons 7 (.int .i64 xs.length) (.cons 8 (.int .i64 i) (.nil))))) (fun i => [blk b3 (Pair.enc p) 28]) (fun i => xs.length - i) (0) (⟨Nat.zero_le _, by simp⟩) ?_ ?_
  · exact fun _ j => J.envJ (J.keep (.cons (by repeat (first | exact Pick.head | apply Pick.tail)) Takes.nil) j) ⟨rfl, rfl, rfl, rfl, trivial⟩
  rintro i ⟨hile, hno⟩ kl4 hl4
  refine Run.seq fun k5 hk5 => ?_
  refine Run.region ?_
  show Sq _ _ _ [0] _ _ _ _
  refine Sq.quiet (i := 0) rfl (Want.none rfl) rfl (ltN rfl) (QP.lss rfl rfl rfl).read ?_
  refine J.caseD (fun c9 => ?_) (fun c9 => ?_)
  · skip
    refine Sq.nil ?_
    refine hk5 _ _ ?_
    refine Run.seq fun k6 hk6 => ?_
    refine Run.cond_t rfl ?_
    refine Run.skip ?_
    refine hk6 _ _ ?_
    refine Run.seq fun k7 hk7 => ?_
    refine Run.block ?_
    refine Run.seq fun k8 hk8 => ?_
    refine Run.region ?_
    show Sq _ _ _ [0, 1] _ _ _ _
    have hlt : i < xs.length := by omega
    obtain ⟨x, hi⟩ : ∃ x, xs[i]? = some x := ⟨_, List.getElem?_eq_getElem hlt⟩
    obtain ⟨b0, o0, rfl, hs0⟩ := ha.get (by omega)
    refine Sq.quiet (i := 0) rfl (Want.none rfl) rfl (ltN rfl) (QP.move rfl rfl).read ?_
    refine Sq.quiet (i := 1) rfl (Want.none rfl) rfl (ltN rfl) (QP.assign rfl rfl).read ?_
    refine Sq.nil ?_
    refine hk8 _ _ ?_
    refine Run.seq fun k9 hk9 => ?_
    refine Run.regionD (M := [0, 0, 0, 6, 14, 31]) (q := 63) (r := 17) (by kernel_rfl) ?_
    refine Dw.read (i := 0) rfl (by kernel_rfl) (Want.none rfl) rfl (ltN rfl) (QR.load rfl rfl g28 (Pair.enc_sub _)) ?_
    refine Dw.pure (i := 1) rfl (by kernel_rfl) (Want.none rfl) rfl (ltN rfl) (QP.move rfl rfl) ?_
    refine Dw.pure (i := 2) rfl (by kernel_rfl) (Want.none rfl) rfl (ltN rfl) (QP.move rfl rfl) ?_
    refine Dw.pure (i := 3) rfl (by kernel_rfl) (Want.none rfl) rfl (ltN rfl) (QP.indexAddr rfl rfl rfl Try.underlying83 z28 (by first | omega | (simp only [List.length_map, List.length_append, List.length_cons, List.length_nil, List.length_take, List.length_drop]; omega)) (by first | omega | (simp only [List.length_map, List.length_append, List.length_cons, List.length_nil, List.length_take, List.length_drop]; omega))) ?_
    refine Dw.read (i := 4) rfl (by kernel_rfl) (Want.none rfl) rfl (ltN rfl) (QR.loadSl rfl rfl g28 Pair.enc_len (hs0 _) hi) ?_
    refine Dw.pure (i := 5) rfl (by kernel_rfl) (Want.none rfl) rfl (ltN rfl) (QP.eql_agg eq28 rfl rfl rfl) ?_
    refine J.caseD (fun c16 => ?_) (fun c16 => ?_)
    · skip
      refine Dw.nil (by kernel_rfl) ?_
      refine hk9 _ _ ?_
      refine Run.cond_t rfl ?_
      refine Run.seq fun k10 hk10 => ?_
      refine Run.region ?_
      show Sq _ _ _ [0, 1] _ _ _ _
      refine Sq.quiet (i := 0) rfl (Want.none rfl) rfl (ltN rfl) (QP.move rfl rfl).read ?_
      refine Sq.quiet (i := 1) rfl (Want.none rfl) rfl (ltN rfl) (QP.assign rfl rfl).read ?_
      refine Sq.nil ?_
      refine hk10 _ _ ?_
      refine Run.ret ?_
      exact J.ends (res_tmp rfl rfl) Takes.nil ⟨rfl, _, rfl, ⟨fun _ => by rw [c16]; exact List.mem_of_getElem? hi, fun _ => by omega⟩⟩
    · skip
      refine Dw.nil (by kernel_rfl) ?_
      refine hk9 _ _ ?_
      refine Run.cond_f rfl ?_
      refine Run.skip ?_
      refine hk7 _ _ ?_
      refine Run.region ?_
      show Sq _ _ _ [0, 1] _ _ _ _
      refine Sq.quiet (i := 0) rfl (Want.none rfl) rfl (ltN rfl) (QP.add64 rfl rfl rfl (by first | omega | (simp only [List.length_map, List.length_append, List.length_cons, List.length_nil, List.length_take, List.length_drop]; omega)) (by first | omega | (simp only [List.length_map, List.length_append, List.length_cons, List.length_nil, List.length_take, List.length_drop]; omega))).read ?_
      refine Sq.quiet (i := 1) rfl (Want.none rfl) rfl (ltN rfl) (QP.move rfl rfl).read ?_
      refine Sq.nil ?_
      exact J.envJ (J.keep (.cons (by repeat (first | exact Pick.head | apply Pick.tail)) Takes.nil) (hl4 (i + 1) (⟨by omega, fun h => by rw [List.take_add_one, hi] at h; rcases List.mem_append.1 h with h | h; exact hno h; simp at h; exact c16 h⟩) (by omega))) ⟨rfl, rfl, rfl, rfl, trivial⟩
  · skip
    refine Sq.nil ?_
    refine hk5 _ _ ?_
    refine Run.seq fun k11 hk11 => ?_
    refine Run.cond_f rfl ?_
    refine Run.exit rfl ?_
    refine hk2 _ _ ?_
    refine Run.seq fun k12 hk12 => ?_
    refine Run.region ?_
    show Sq _ _ _ [0] _ _ _ _
    refine Sq.quiet (i := 0) rfl (Want.none rfl) rfl (ltN rfl) (QP.assign rfl rfl).read ?_
    refine Sq.nil ?_
    refine hk12 _ _ ?_
    refine Run.ret ?_
    exact J.ends (res_tmp rfl rfl) Takes.nil ⟨rfl, _, rfl, ⟨fun h => by omega, fun h => by rw [List.take_of_length_le (by omega)] at hno; exact absurd h hno⟩⟩

theorem containsP_spec (F : Fr) {a : Option Addr} {xs : List Pair} {c : Nat} (hlen : xs.length ≤ 4294967296) (ha : ArgSl F a 34 Pair.enc xs) (p : Pair) : Spec Try.prog 34 #[.slice a xs.length c, .agg (Pair.enc p).toArray] [] F (fun v S => v = .bool (decide (p ∈ xs)) ∧ S = []) := by
  refine Spec.intro (N := 9) (args := [.slice a xs.length c, .agg (Pair.enc p).toArray]) Try.func34 rfl rfl (by simp) ?_
  refine Run.seq fun k1 hk1 => ?_
  refine Run.region ?_
  show Sq _ _ _ [0, 1] _ _ _ _
  refine Sq.eff (i := 0) rfl (Want.none rfl) rfl (ltN rfl) (EF.boxA rfl rfl) ?_
  rintro _ _ ⟨b3, rfl, rfl⟩
  refine Sq.quiet (i := 1) rfl (Want.none rfl) rfl (ltN rfl) (QP.assign rfl rfl).read ?_
  refine Sq.nil ?_
  refine hk1 _ _ ?_
  refine Run.seq fun k2 hk2 => ?_
  refine Run.region ?_
  show Sq _ _ _ [0, 1, 2, 3, 4] _ _ _ _
  refine Sq.quiet (i := 0) rfl (Want.none rfl) rfl (ltN rfl) (QP.move rfl rfl).read ?_
  refine Sq.quiet (i := 1) rfl (Want.none rfl) rfl (ltN rfl) (QR.load rfl rfl g28 (Pair.enc_sub _)) ?_
  refine Sq.eff (i := 2) rfl (Want.none rfl) rfl (ltN rfl) (EF.call rfl ce47 rfl Takes.nil (fun F' hle hr => indexP_spec F' hlen (ha.mono hle) p)) ?_
  rintro _ _ ⟨_, ⟨rfl, n, rfl, hn⟩, rfl⟩
  refine J.app ?_
  refine Sq.quiet (i := 3) rfl (Want.none rfl) rfl (ltN rfl) (QP.geq rfl rfl rfl).read ?_
  refine Sq.quiet (i := 4) rfl (Want.none rfl) rfl (ltN rfl) (QP.assign rfl rfl).read ?_
  refine Sq.nil ?_
  refine hk2 _ _ ?_
  refine Run.ret ?_
  exact J.ends (res_tmp rfl rfl) Takes.nil ⟨congrArg Value.bool (decide_eq_decide.2 hn), rfl⟩

def inQ (xs : List Pair) (s : Pending) : Bool := decide (s.pair ∈ xs)

theorem forgetQ (F : Fr) {b r : Nat} {most : Int} {E : EntQ} (hf : InQ F b r most E) (hE : E.length ≤ 1000000) {a : Option Addr} {xs : List Pair} {c : Nat} (hlen : xs.length ≤ 4294967296) (ha : ArgSl F a 34 Pair.enc xs)  : Spec Try.prog 16 #[.pointer (some ⟨b, 0, none⟩), .slice a xs.length c] [mapQ r (ptrs E)] F (fun v S => ∃ ys, ys.Perm (E.map (·.2.2)) ∧ v = .int .i64 (ys.filter (inQ xs)).length ∧ S = [mapQ r (ptrs (delsE (inQ xs) keyQ E ys))]) := by
  refine Spec.intro (N := 31) (args := [.pointer (some ⟨b, 0, none⟩), .slice a xs.length c]) Try.func16 rfl rfl (by simp) ?_
  refine Run.seq fun k1 hk1 => ?_
  refine Run.region ?_
  show Sq _ _ _ [0] _ _ _ _
  refine Sq.quiet (i := 0) rfl (Want.none rfl) rfl (ltN rfl) (QP.assign rfl rfl).read ?_
  refine Sq.nil ?_
  refine hk1 _ _ ?_
  refine Run.seq fun k2 hk2 => ?_
  refine Run.seq fun k3 hk3 => ?_
  refine Run.region ?_
  show Sq _ _ _ [0, 1, 2, 3] _ _ _ _
  refine Sq.quiet (i := 0) rfl (Want.none rfl) rfl (ltN rfl) (QP.move rfl rfl).read ?_
  refine Sq.eff (i := 1) rfl (Want.none rfl) rfl (ltN rfl) (EF.call rfl ce13 rfl (.cons (by repeat (first | exact Pick.head | apply Pick.tail)) Takes.nil) (fun F' hle hr => listQ F' (hf.mono hle) hE)) ?_
  rintro v8 _ ⟨_, ⟨ys, hp, hs, rfl⟩, rfl⟩
  refine J.app ?_
  refine J.slHead (v := v8) (xs := ys) (by repeat (first | exact List.Mem.head _ | apply List.Mem.tail)) (fun a8 c8 hv8 hs8 => ?_)
  subst hv8
  show Sq _ _ _ _ _ _ _ _
  have hyl : ys.length = E.length := by simpa using hp.length_eq
  refine Sq.quiet (i := 2) rfl (Want.none rfl) rfl (ltN rfl) (QP.len rfl rfl rfl Try.underlying40).read ?_
  refine Sq.quiet (i := 3) rfl (Want.none rfl) rfl (ltN rfl) (QP.move rfl rfl).read ?_
  refine Sq.nil ?_
  refine hk3 _ _ ?_
  refine Run.block ?_
  refine Run.loop2 (fun (i : Nat) (M : List (RequestKey × Nat)) => i ≤ ys.length ∧ M = ptrs (delsE (inQ xs) keyQ E (ys.take i))) (fun i M => .cons 0 (.pointer (some ⟨b, 0, none⟩)) (.cons 1 (.slice a xs.length c) (.cons 4 (.int .i64 ((ys.take i).filter (inQ xs)).length) (.cons 8 (.slice a8 ys.length c8) (.cons 9 (.int .i64 ys.length) (.cons 10 (.int .i64 i) (.nil))))))) (fun i M => [mapQ r M, slA 67 45 Pending.enc (.slice a8 ys.length c8) ys]) (fun i M => ys.length - i) (0) (ptrs E) (⟨Nat.zero_le _, rfl⟩) ?_ ?_
  · exact fun _ j => J.envJ (J.keep (.cons (by repeat (first | exact Pick.head | apply Pick.tail)) (.cons (by repeat (first | exact Pick.head | apply Pick.tail)) Takes.nil)) j) ⟨rfl, rfl, rfl, rfl, rfl, rfl, trivial⟩
  rintro i M ⟨hile, hM⟩ kl4 hl4
  refine Run.seq fun k5 hk5 => ?_
  refine Run.region ?_
  show Sq _ _ _ [0] _ _ _ _
  refine Sq.quiet (i := 0) rfl (Want.none rfl) rfl (ltN rfl) (QP.lss rfl rfl rfl).read ?_
  refine J.caseD (fun c11 => ?_) (fun c11 => ?_)
  · skip
    refine Sq.nil ?_
    refine hk5 _ _ ?_
    refine Run.seq fun k6 hk6 => ?_
    refine Run.cond_t rfl ?_
    refine Run.skip ?_
    refine hk6 _ _ ?_
    refine Run.seq fun k7 hk7 => ?_
    refine Run.block ?_
    refine Run.seq fun k8 hk8 => ?_
    refine Run.region ?_
    show Sq _ _ _ [0, 1, 2, 3] _ _ _ _
    have hlt : i < ys.length := by omega
    obtain ⟨s, hi⟩ : ∃ s, ys[i]? = some s := ⟨_, List.getElem?_eq_getElem hlt⟩
    obtain ⟨b0, o0, rfl⟩ := hs8 (by omega)
    have hfl : ((ys.take i).filter (inQ xs)).length ≤ 1000000 := by
      have := List.length_filter_le (inQ xs) (ys.take i)
      have := List.length_take_le i ys
      omega
    refine Sq.quiet (i := 0) rfl (Want.none rfl) rfl (ltN rfl) (QP.indexAddr rfl rfl rfl Try.underlying40 z67 (by first | omega | (simp only [List.length_map, List.length_append, List.length_cons, List.length_nil, List.length_take, List.length_drop]; omega)) (by first | omega | (simp only [List.length_map, List.length_append, List.length_cons, List.length_nil, List.length_take, List.length_drop]; omega))).read ?_
    refine Sq.quiet (i := 1) rfl (Want.none rfl) rfl (ltN rfl) (QR.loadSl rfl rfl g67 Pending.enc_len (SlAt.own Pending.enc_len (by repeat (first | exact List.Mem.head _ | apply List.Mem.tail))) hi) ?_
    refine Sq.eff (i := 2) rfl (Want.none rfl) rfl (ltN rfl) (EF.allocA (l := Pending.enc Pending.zero) rfl zero67) ?_
    rintro _ _ ⟨b6, rfl, rfl⟩
    refine Sq.act (i := 3) rfl (Want.none rfl) rfl (EF.storeA rfl rfl rfl z67 (SetL.all (Pending.enc_len _) (Pending.enc_len _)) (Pending.enc_cell _)) ?_
    rintro _ _ rfl
    refine Sq.nil ?_
    refine hk8 _ _ ?_
    refine Run.seq fun k9 hk9 => ?_
    refine Run.region ?_
    show Sq _ _ _ [0, 1, 2, 3] _ _ _ _
    refine Sq.quiet (i := 0) rfl (Want.none rfl) rfl (ltN rfl) (QP.move rfl rfl).read ?_
    refine Sq.quiet (i := 1) rfl (Want.none rfl) rfl (ltN rfl) (QP.fieldAddr rfl rfl f67_0).read ?_
    refine Sq.quiet (i := 2) rfl (Want.none rfl) rfl (ltN rfl) (QR.load rfl rfl g28 (Pending.sub_pair _)) ?_
    refine Sq.eff (i := 3) rfl (Want.none rfl) rfl (ltN rfl) (EF.call rfl ce34 rfl Takes.nil (fun F' hle hr => containsP_spec F' hlen (ha.mono hle) s.pair)) ?_
    rintro _ _ ⟨_, ⟨rfl, rfl⟩, rfl⟩
    refine J.app ?_
    refine J.caseB (fun c17 => ?_) (fun c17 => ?_)
    · skip
      refine Sq.nil ?_
      refine hk9 _ _ ?_
      refine Run.cond_t rfl ?_
      refine Run.seq fun k10 hk10 => ?_
      refine Run.regionD (M := [0, 1, 3, 7, 0, 16, 0, 64, 240, 511]) (q := 511) (r := 168) (by kernel_rfl) ?_
      refine Dw.pure (i := 0) rfl (by kernel_rfl) (Want.none rfl) rfl (ltN rfl) (QP.move rfl rfl) ?_
      refine Dw.pure (i := 1) rfl (by kernel_rfl) (Want.none rfl) rfl (ltN rfl) (QP.nilCheck rfl rfl) ?_
      refine Dw.pure (i := 2) rfl (by kernel_rfl) (Want.none rfl) rfl (ltN rfl) (QP.fieldAddr rfl rfl f70_1) ?_
      refine Dw.read (i := 3) rfl (by kernel_rfl) (Want.none rfl) rfl (ltN rfl) (QR.load1F rfl rfl g68 hf.tb (RequestTable.sub_m _)) ?_
      refine Dw.pure (i := 4) rfl (by kernel_rfl) (Want.none rfl) rfl (ltN rfl) (QP.fieldAddr rfl rfl f67_0) ?_
      refine Dw.read (i := 5) rfl (by kernel_rfl) (Want.none rfl) rfl (ltN rfl) (QR.load rfl rfl g28 (Pending.sub_pair _)) ?_
      refine Dw.pure (i := 6) rfl (by kernel_rfl) (Want.none rfl) rfl (ltN rfl) (QP.fieldAddr rfl rfl f67_1) ?_
      refine Dw.read (i := 7) rfl (by kernel_rfl) (Want.none rfl) rfl (ltN rfl) (QR.load rfl rfl g30 (Pending.sub_id_ _)) ?_
      refine Dw.pure (i := 8) rfl (by kernel_rfl) (Want.none rfl) rfl (ltN rfl) (QP.build (l := RequestKey.enc ⟨((s).pair), ((s).id_)⟩) rfl st75 rfl (by exact ⟨(congrArg some (Pair.enc_len _).symm), ⟨(congrArg some (Bs.len _).symm), trivial⟩⟩) rfl) ?_
      refine Dw.eff (i := 9) (by kernel_rfl) (by kernel_rfl) ?_
      refine One.act (o := _) (l := []) rfl (by kernel_rfl) (Want.none rfl) rfl (EF.delete key75 rfl rfl rfl rfl Try.underlying68) (by kernel_rfl) ?_
      rintro _ _ rfl
      refine ⟨fun _ h => (by cases h), ?_⟩
      refine Dw.nil (by kernel_rfl) ?_
      refine hk10 _ _ ?_
      refine Run.region ?_
      show Sq _ _ _ [0, 1, 2] _ _ _ _
      refine Sq.quiet (i := 0) rfl (Want.none rfl) rfl (ltN rfl) (QP.move rfl rfl).read ?_
      refine Sq.quiet (i := 1) rfl (Want.none rfl) rfl (ltN rfl) (QP.add64 rfl rfl rfl (by first | omega | (simp only [List.length_map, List.length_append, List.length_cons, List.length_nil, List.length_take, List.length_drop]; omega)) (by first | omega | (simp only [List.length_map, List.length_append, List.length_cons, List.length_nil, List.length_take, List.length_drop]; omega))).read ?_
      refine Sq.quiet (i := 2) rfl (Want.none rfl) rfl (ltN rfl) (QP.assign rfl rfl).read ?_
      refine Sq.nil ?_
      refine hk7 _ _ ?_
      refine Run.region ?_
      show Sq _ _ _ [0, 1] _ _ _ _
      refine Sq.quiet (i := 0) rfl (Want.none rfl) rfl (ltN rfl) (QP.add64 rfl rfl rfl (by first | omega | (simp only [List.length_map, List.length_append, List.length_cons, List.length_nil, List.length_take, List.length_drop]; omega)) (by first | omega | (simp only [List.length_map, List.length_append, List.length_cons, List.length_nil, List.length_take, List.length_drop]; omega))).read ?_
      refine Sq.quiet (i := 1) rfl (Want.none rfl) rfl (ltN rfl) (QP.move rfl rfl).read ?_
      refine Sq.nil ?_
      have hc17 : inQ xs s = true := c17
      exact J.envJ (J.keep (.cons (by repeat (first | exact Pick.head | apply Pick.tail)) (.cons (by repeat (first | exact Pick.head | apply Pick.tail)) Takes.nil)) (hl4 (i + 1) (adel M (keyQ s)) (⟨by omega, by rw [delsE_succ _ _ E hi, hc17, hM]; exact (ptrs_adel _ _).symm⟩) (by omega))) ⟨rfl, rfl, (congrArg (fun n : Nat => some (Value.int .i64 n)) (show _ = _ from by rw [filter_succ _ hi, show inQ xs s = true from c17]; simp)), rfl, rfl, rfl, trivial⟩
    · skip
      refine Sq.nil ?_
      refine hk9 _ _ ?_
      refine Run.cond_f rfl ?_
      refine Run.skip ?_
      refine hk7 _ _ ?_
      refine Run.region ?_
      show Sq _ _ _ [0, 1] _ _ _ _
      refine Sq.quiet (i := 0) rfl (Want.none rfl) rfl (ltN rfl) (QP.add64 rfl rfl rfl (by first | omega | (simp only [List.length_map, List.length_append, List.length_cons, List.length_nil, List.length_take, List.length_drop]; omega)) (by first | omega | (simp only [List.length_map, List.length_append, List.length_cons, List.length_nil, List.length_take, List.length_drop]; omega))).read ?_
      refine Sq.quiet (i := 1) rfl (Want.none rfl) rfl (ltN rfl) (QP.move rfl rfl).read ?_
      refine Sq.nil ?_
      have hc17 : inQ xs s = false := c17
      exact J.envJ (J.keep (.cons (by repeat (first | exact Pick.head | apply Pick.tail)) (.cons (by repeat (first | exact Pick.head | apply Pick.tail)) Takes.nil)) (hl4 (i + 1) (M) (⟨by omega, by rw [delsE_succ _ _ E hi, hc17, hM]; rfl⟩) (by omega))) ⟨rfl, rfl, (congrArg (fun n : Nat => some (Value.int .i64 n)) (show _ = _ from by rw [filter_succ _ hi, show inQ xs s = false from c17]; simp)), rfl, rfl, rfl, trivial⟩
  · skip
    refine Sq.nil ?_
    refine hk5 _ _ ?_
    refine Run.seq fun k11 hk11 => ?_
    refine Run.cond_f rfl ?_
    refine Run.exit rfl ?_
    refine hk2 _ _ ?_
    refine Run.seq fun k12 hk12 => ?_
    refine Run.region ?_
    show Sq _ _ _ [0, 1] _ _ _ _
    refine Sq.quiet (i := 0) rfl (Want.none rfl) rfl (ltN rfl) (QP.move rfl rfl).read ?_
    refine Sq.quiet (i := 1) rfl (Want.none rfl) rfl (ltN rfl) (QP.assign rfl rfl).read ?_
    refine Sq.nil ?_
    refine hk12 _ _ ?_
    refine Run.ret ?_
    have hty : ys.take i = ys := List.take_of_length_le (by omega)
    rw [hty] at hM
    subst hM
    exact J.ends (res_tmp rfl rfl) (.cons (by repeat (first | exact Pick.head | apply Pick.tail)) Takes.nil) ⟨ys, hp, by rw [hty], rfl⟩

/-- Each request lies under its own pair and router. -/
def KeyedQ (M : TabQ) : Prop := ∀ e ∈ M, e.1 = keyQ e.2
theorem forgetQT (F : Fr) {b : Nat} {most : Int} {M : TabQ} (hM : M.length ≤ 1000000) (hk : KeyedQ M) {a : Option Addr} {xs : List Pair} {c : Nat} (hlen : xs.length ≤ 4294967296) (ha : ArgSl F a 34 Pair.enc xs) :
    Spec Try.prog 16 #[.pointer (some ⟨b, 0, none⟩), .slice a xs.length c] [QTab b most M] F
    fun v S => v = .int .i64 (M.filter fun e => inQ xs e.2).length ∧ S = [QTab b most (M.filter fun e => !inQ xs e.2)] := by
  refine Spec.mono (qtab_spec (Q := fun v M' B => v = .int .i64 (M.filter fun e => inQ xs e.2).length ∧ M' = (M.filter fun e => !inQ xs e.2) ∧ B = []) fun F' r E hf hv hnd hle => ?_) ?_
  · subst hv
    refine (forgetQ F' hf (by rw [lenQ] at hM; exact hM) hlen (ha.mono hle)).mono ?_
    rintro v S ⟨ys, h1, rfl, rfl⟩
    have e : E.map (·.2.2) = (vals E).map (·.2) := by simp [vals]
    rw [e] at h1
    obtain ⟨rr, hrr⟩ := rows_delsE (inQ xs) keyQ Pending.enc 67 ys E
    refine ⟨delsE (inQ xs) keyQ E ys, [], rr, ⟨?_, by rw [vals_delsE]; exact delsM_all hnd hk h1, rfl⟩, ?_⟩
    · have h2 := (h1.filter (inQ xs)).length_eq
      rw [h2, List.filter_map, List.length_map]
      rfl
    · exact List.Perm.cons _ hrr
  · rintro v S ⟨M', B, ⟨h1, rfl, rfl⟩, rfl⟩; exact ⟨h1, rfl⟩
theorem wrap_u16 (n : Int) : IntKind.u16.wrap n = n % 65536 := by simp [IntKind.wrap, IntKind.bits, IntKind.signed]
theorem keyed_aset {M : TabQ} (h : KeyedQ M) (x : Pending) : KeyedQ (aset M (keyQ x) x) := fun e he => by
  rcases mem_aset he with rfl | he
  · rfl
  · exact h e he
theorem keyed_ask {most : Int} {M : TabQ} {now : Int} {p : Pair} {id : Bs 8} {q : Int} (h : KeyedQ M) : KeyedQ (askF most M now p id q).2.2 := by
  unfold askF
  split
  · split
    · exact h
    · exact keyed_aset h ⟨p, id, q, 1, now + 2000⟩
  · split
    · exact keyed_aset h ⟨p, id, q, 1, now + 2000⟩
    · exact h
theorem other_ask {most : Int} {M : TabQ} {now : Int} {p0 p : Pair} {id : Bs 8} {q : Int} (hp : p ≠ p0) (h : ∀ e ∈ M, e.1.p ≠ p0) : ∀ e ∈ (askF most M now p id q).2.2, e.1.p ≠ p0 := by
  unfold askF
  split
  · split
    · exact h
    · intro e he
      rcases mem_aset he with rfl | he
      · exact hp
      · exact h e he
  · split
    · intro e he
      rcases mem_aset he with rfl | he
      · exact hp
      · exact h e he
    · exact h
theorem len_ask1 {most : Int} {M : TabQ} {now : Int} {p : Pair} {id : Bs 8} {q : Int} : (askF most M now p id q).2.2.length ≤ M.length + 1 := by
  unfold askF
  split
  · split
    · exact Nat.le_succ _
    · simp only [len_aset]; split <;> omega
  · split
    · simp only [len_aset]; split <;> omega
    · exact Nat.le_succ _
section once
variable {M : TabQ} {p : Pair} {id : Bs 8} {q : Int}
theorem none_of (h : ∀ e ∈ M, e.1.p ≠ p) : alook M ⟨p, id⟩ = none := alook_none.2 fun e he hc => h e he (by rw [hc])
theorem ask_new (h : ∀ e ∈ M, e.1.p ≠ p) (hl : M.length ≤ 150) (t q : Int) : askF 151 M t p id q = (true, 0, aset M ⟨p, id⟩ ⟨p, id, q, 1, t + 2000⟩) := by
  simp only [askF, none_of h]
  rw [if_neg (by omega)]
theorem ask_old {x : Pending} (t q : Int) (hx : lessB x.seqno q = false) : askF 151 (aset M ⟨p, id⟩ x) t p id q = (false, 0, aset M ⟨p, id⟩ x) := by
  simp [askF, alook_aset_self, hx]
theorem met_no {x : Pending} {d : Distance} (hx : meetsB d x.seqno = false) : metF (aset M ⟨p, id⟩ x) p id d = (false, aset M ⟨p, id⟩ x) := by
  simp [metF, alook_aset_self, hx]
theorem met_yes (h : ∀ e ∈ M, e.1.p ≠ p) {x : Pending} {d : Distance} (hx : meetsB d x.seqno = true) : metF (aset M ⟨p, id⟩ x) p id d = (true, M) := by
  simp [metF, alook_aset_self, hx, adel_aset (none_of h)]
theorem less_self (q : Int) : lessB q q = false := by simp [lessB]
theorem less_back (h0 : 0 ≤ q) (h1 : q ≤ 65535) : lessB q (IntKind.u16.wrap (q - 1)) = false := by
  simp only [lessB, wrap_u16, Bool.and_eq_false_iff, decide_eq_false_iff_not]
  right; omega
theorem less_next (h0 : 0 ≤ q) (h1 : q ≤ 65535) : lessB (IntKind.u16.wrap (q - 1)) q = true := by
  simp only [lessB, wrap_u16, Bool.and_eq_true, decide_eq_true_eq]
  omega
theorem forget_one (h : ∀ e ∈ M, e.1.p ≠ p) (hk : KeyedQ M) (x : Pending) (hx : x.pair = p) : ((aset M ⟨p, id⟩ x).filter fun e => !inQ [p] e.2) = M ∧ ((aset M ⟨p, id⟩ x).filter fun e => inQ [p] e.2).length = 1 := by
  rw [aset_none (none_of h)]
  have hM : ∀ e ∈ M, inQ [p] e.2 = false := fun e he => by
    simp only [inQ, List.mem_singleton, decide_eq_false_iff_not]
    intro hc
    exact h e he (by rw [hk e he]; exact hc)
  have hx1 : inQ [p] x = true := by simp [inQ, hx]
  rw [List.filter_append, List.filter_append]
  constructor
  · rw [List.filter_eq_self.2 (fun e he => by simp [hM e he])]
    simp [hx1]
  · rw [List.filter_eq_nil_iff.2 (fun e he => by simp [hM e he])]
    simp [hx1]
end once

theorem law_once (F : Fr) {a : Option Addr} {xs : List Law18Act} {c : Nat} (hlen : xs.length ≤ 9223372036854775807) (ha : ArgSl F a 46 Law18Act.enc xs) (p : Pair) (id : Bs 8) (q : Int) (hq0 : 0 ≤ q) (hq1 : q ≤ 65535) : Spec Try.prog 5 #[.slice a xs.length c, .agg (Pair.enc p).toArray, .agg (Bs.enc id).toArray, .int .u16 q] [] F (fun v S => v = .bool true ∧ S = []) := by
  refine Spec.intro (N := 173) (args := [.slice a xs.length c, .agg (Pair.enc p).toArray, .agg (Bs.enc id).toArray, .int .u16 q]) Try.func5 rfl rfl (by simp) ?_
  refine Run.seq fun k1 hk1 => ?_
  refine Run.region ?_
  show Sq _ _ _ [0, 1, 2] _ _ _ _
  refine Sq.eff (i := 0) rfl (Want.none rfl) rfl (ltN rfl) (EF.boxA rfl rfl) ?_
  rintro _ _ ⟨b5, rfl, rfl⟩
  refine Sq.eff (i := 1) rfl (Want.none rfl) rfl (ltN rfl) (EF.boxA rfl rfl) ?_
  rintro _ _ ⟨b6, rfl, rfl⟩
  refine Sq.quiet (i := 2) rfl (Want.none rfl) rfl (ltN rfl) (QP.assign rfl rfl).read ?_
  refine Sq.nil ?_
  refine hk1 _ _ ?_
  refine Run.seq fun k2 hk2 => ?_
  refine Run.seq fun k3 hk3 => ?_
  refine Run.region ?_
  show Sq _ _ _ [0, 1, 2] _ _ _ _
  refine Sq.quiet (i := 0) rfl (Want.none rfl) rfl (ltN rfl) (QP.move rfl rfl).read ?_
  refine Sq.eff (i := 1) rfl (Want.none rfl) rfl (ltN rfl) (EF.call rfl ce8 rfl Takes.nil (fun F' hle hr => right_spec F' hlen (ha.mono hle))) ?_
  rintro _ _ ⟨_, ⟨rfl, r, rfl, hright⟩, rfl⟩
  refine J.app ?_
  refine J.caseB (fun c24 => ?_) (fun c24 => ?_)
  · skip
    refine Sq.quiet (i := 2) rfl (Want.none rfl) rfl (ltN rfl) (QP.not rfl rfl).read ?_
    refine Sq.nil ?_
    refine hk3 _ _ ?_
    refine Run.cond_f rfl ?_
    refine Run.skip ?_
    refine hk2 _ _ ?_
    refine Run.seq fun k4 hk4 => ?_
    refine Run.region ?_
    show Sq _ _ _ [0, 1] _ _ _ _
    obtain ⟨hl150, hgap⟩ := hright c24
    refine Sq.eff (i := 0) rfl (Want.none rfl) rfl (ltN rfl) (EF.call rfl ce10 rfl Takes.nil (fun F' hle hr => newQT F' _)) ?_
    rintro _ _ ⟨_, ⟨b27, rfl, rfl⟩, rfl⟩
    refine J.app ?_
    refine Sq.quiet (i := 1) rfl (Want.none rfl) rfl (ltN rfl) (QP.assign rfl rfl).read ?_
    refine Sq.nil ?_
    refine hk4 _ _ ?_
    refine Run.seq fun k5 hk5 => ?_
    refine Run.seq fun k6 hk6 => ?_
    refine Run.region ?_
    show Sq _ _ _ [0, 1] _ _ _ _
    refine Sq.quiet (i := 0) rfl (Want.none rfl) rfl (ltN rfl) (QP.move rfl rfl).read ?_
    refine Sq.quiet (i := 1) rfl (Want.none rfl) rfl (ltN rfl) (QP.ptr_eq_nil rfl rfl rfl Try.underlying34).read ?_
    refine Sq.nil ?_
    refine hk6 _ _ ?_
    refine Run.cond_f rfl ?_
    refine Run.skip ?_
    refine hk5 _ _ ?_
    refine Run.seq fun k7 hk7 => ?_
    refine Run.seq fun k8 hk8 => ?_
    refine Run.region ?_
    show Sq _ _ _ [0] _ _ _ _
    refine Sq.quiet (i := 0) rfl (Want.none rfl) rfl (ltN rfl) (QP.assign rfl rfl).read ?_
    refine Sq.nil ?_
    refine hk8 _ _ ?_
    refine Run.block ?_
    refine Run.loop2 (fun (i : Nat) (M : TabQ) => i ≤ xs.length ∧ KeyedQ M ∧ (∀ e ∈ M, e.1.p ≠ p) ∧ M.length ≤ i) (fun i M => .cons 0 (.slice a xs.length c) (.cons 3 (.int .u16 q) (.cons 5 (.pointer (some ⟨b5, 0, none⟩)) (.cons 6 (.pointer (some ⟨b6, 0, none⟩)) (.cons 9 (.pointer (some ⟨b27, 0, none⟩)) (.cons 10 (.int .i64 i) (.nil))))))) (fun i M => [QTab b27 151 M, blk b5 (Pair.enc p) 28, blk b6 (Bs.enc id) 30]) (fun i M => xs.length - i) (0) ([]) (⟨Nat.zero_le _, fun _ h => (by cases h), fun _ h => (by cases h), Nat.le_refl _⟩) ?_ ?_
    · exact fun _ j => J.envJ (J.keep (.cons (by repeat (first | exact Pick.head | apply Pick.tail)) (.cons (by repeat (first | exact Pick.head | apply Pick.tail)) (.cons (by repeat (first | exact Pick.head | apply Pick.tail)) Takes.nil))) j) ⟨rfl, rfl, rfl, rfl, rfl, rfl, trivial⟩
    rintro i M ⟨hile, hkey, hoth, hML⟩ kl9 hl9
    refine Run.seq fun k10 hk10 => ?_
    refine Run.seq fun k11 hk11 => ?_
    refine Run.region ?_
    show Sq _ _ _ [0, 1, 2, 3] _ _ _ _
    refine Sq.quiet (i := 0) rfl (Want.none rfl) rfl (ltN rfl) (QP.move rfl rfl).read ?_
    refine Sq.quiet (i := 1) rfl (Want.none rfl) rfl (ltN rfl) (QP.move rfl rfl).read ?_
    refine Sq.quiet (i := 2) rfl (Want.none rfl) rfl (ltN rfl) (QP.len rfl rfl rfl Try.underlying22).read ?_
    refine Sq.quiet (i := 3) rfl (Want.none rfl) rfl (ltN rfl) (QP.lss rfl rfl rfl).read ?_
    refine J.caseD (fun c33 => ?_) (fun c33 => ?_)
    · skip
      refine Sq.nil ?_
      refine hk11 _ _ ?_
      refine Run.cond_t rfl ?_
      refine Run.skip ?_
      refine hk10 _ _ ?_
      refine Run.seq fun k12 hk12 => ?_
      refine Run.block ?_
      refine Run.seq fun k13 hk13 => ?_
      refine Run.regionD (M := [0, 0, 3, 7, 15, 31, 63, 127, 127, 511, 1023, 2047, 127, 8191, 16383]) (q := 32767) (r := 6160) (by kernel_rfl) ?_
      have hlt : i < xs.length := by omega
      obtain ⟨x, hi⟩ : ∃ x, xs[i]? = some x := ⟨_, List.getElem?_eq_getElem hlt⟩
      obtain ⟨b0, o0, rfl, hs0⟩ := ha.get (by omega)
      refine Dw.pure (i := 0) rfl (by kernel_rfl) (Want.none rfl) rfl (ltN rfl) (QP.move rfl rfl) ?_
      refine Dw.pure (i := 1) rfl (by kernel_rfl) (Want.none rfl) rfl (ltN rfl) (QP.move rfl rfl) ?_
      refine Dw.pure (i := 2) rfl (by kernel_rfl) (Want.none rfl) rfl (ltN rfl) (QP.indexAddr rfl rfl rfl Try.underlying22 z47 (by first | omega | (simp only [List.length_map, List.length_append, List.length_cons, List.length_nil, List.length_take, List.length_drop]; omega)) (by first | omega | (simp only [List.length_map, List.length_append, List.length_cons, List.length_nil, List.length_take, List.length_drop]; omega))) ?_
      refine Dw.pure (i := 3) rfl (by kernel_rfl) (Want.none rfl) rfl (ltN rfl) (QP.fieldAddr rfl rfl f47_0) ?_
      refine Dw.read (i := 4) rfl (by kernel_rfl) (Want.none rfl) rfl (ltN rfl) (QR.loadSlF1 rfl rfl g3 Law18Act.enc_len (hs0 _) hi (Law18Act.sub_kind _)) ?_
      refine Dw.pure (i := 5) rfl (by kernel_rfl) (Want.none rfl) rfl (ltN rfl) (QP.eql rfl rfl rfl) ?_
      refine J.caseD (fun c41 => ?_) (fun c41 => ?_)
      · skip
        refine Dw.pure (i := 6) rfl (by kernel_rfl) (Want.none rfl) rfl (ltN rfl) (QP.move rfl rfl) ?_
        refine Dw.pure (i := 7) rfl (by kernel_rfl) (Want.yes rfl rfl rfl rfl) rfl (ltN rfl) (QP.move rfl rfl) ?_
        refine Dw.pure (i := 8) rfl (by kernel_rfl) (Want.yes rfl rfl rfl rfl) rfl (ltN rfl) (QP.move rfl rfl) ?_
        refine Dw.pure (i := 9) rfl (by kernel_rfl) (Want.yes rfl rfl rfl rfl) rfl (ltN rfl) (QP.indexAddr rfl rfl rfl Try.underlying22 z47 (by first | omega | (simp only [List.length_map, List.length_append, List.length_cons, List.length_nil, List.length_take, List.length_drop]; omega)) (by first | omega | (simp only [List.length_map, List.length_append, List.length_cons, List.length_nil, List.length_take, List.length_drop]; omega))) ?_
        refine Dw.pure (i := 10) rfl (by kernel_rfl) (Want.yes rfl rfl rfl rfl) rfl (ltN rfl) (QP.fieldAddr rfl rfl f47_2) ?_
        refine Dw.read (i := 11) rfl (by kernel_rfl) (Want.yes rfl rfl rfl rfl) rfl (ltN rfl) (QR.loadSlF rfl rfl g28 Law18Act.enc_len (hs0 _) hi (Law18Act.sub_p _)) ?_
        refine Dw.read (i := 12) rfl (by kernel_rfl) (Want.yes rfl rfl rfl rfl) rfl (ltN rfl) (QR.load rfl rfl g28 (Pair.enc_sub _)) ?_
        refine Dw.pure (i := 13) rfl (by kernel_rfl) (Want.yes rfl rfl rfl rfl) rfl (ltN rfl) (QP.neq_agg eq28 rfl rfl rfl) ?_
        refine J.caseD (fun c49 => ?_) (fun c49 => ?_)
        · skip
          refine Dw.pure (i := 14) rfl (by kernel_rfl) (Want.none rfl) rfl (ltN rfl) (QP.pick_t rfl rfl rfl) ?_
          refine Dw.nil (by kernel_rfl) ?_
          refine hk13 _ _ ?_
          refine Run.cond_t rfl ?_
          refine Run.regionD (M := [0, 0, 0, 6, 14, 30, 0, 0, 192, 448, 960, 0, 0, 6144, 14336, 30720, 63488, 131071]) (q := 131071) (r := 66592) (by kernel_rfl) ?_
          refine Dw.pure (i := 0) rfl (by kernel_rfl) (Want.none rfl) rfl (ltN rfl) (QP.move rfl rfl) ?_
          refine Dw.pure (i := 1) rfl (by kernel_rfl) (Want.none rfl) rfl (ltN rfl) (QP.move rfl rfl) ?_
          refine Dw.pure (i := 2) rfl (by kernel_rfl) (Want.none rfl) rfl (ltN rfl) (QP.move rfl rfl) ?_
          refine Dw.pure (i := 3) rfl (by kernel_rfl) (Want.none rfl) rfl (ltN rfl) (QP.indexAddr rfl rfl rfl Try.underlying22 z47 (by first | omega | (simp only [List.length_map, List.length_append, List.length_cons, List.length_nil, List.length_take, List.length_drop]; omega)) (by first | omega | (simp only [List.length_map, List.length_append, List.length_cons, List.length_nil, List.length_take, List.length_drop]; omega))) ?_
          refine Dw.pure (i := 4) rfl (by kernel_rfl) (Want.none rfl) rfl (ltN rfl) (QP.fieldAddr rfl rfl f47_2) ?_
          refine Dw.read (i := 5) rfl (by kernel_rfl) (Want.none rfl) rfl (ltN rfl) (QR.loadSlF rfl rfl g28 Law18Act.enc_len (hs0 _) hi (Law18Act.sub_p _)) ?_
          refine Dw.pure (i := 6) rfl (by kernel_rfl) (Want.none rfl) rfl (ltN rfl) (QP.move rfl rfl) ?_
          refine Dw.pure (i := 7) rfl (by kernel_rfl) (Want.none rfl) rfl (ltN rfl) (QP.move rfl rfl) ?_
          refine Dw.pure (i := 8) rfl (by kernel_rfl) (Want.none rfl) rfl (ltN rfl) (QP.indexAddr rfl rfl rfl Try.underlying22 z47 (by first | omega | (simp only [List.length_map, List.length_append, List.length_cons, List.length_nil, List.length_take, List.length_drop]; omega)) (by first | omega | (simp only [List.length_map, List.length_append, List.length_cons, List.length_nil, List.length_take, List.length_drop]; omega))) ?_
          refine Dw.pure (i := 9) rfl (by kernel_rfl) (Want.none rfl) rfl (ltN rfl) (QP.fieldAddr rfl rfl f47_3) ?_
          refine Dw.read (i := 10) rfl (by kernel_rfl) (Want.none rfl) rfl (ltN rfl) (QR.loadSlF rfl rfl g30 Law18Act.enc_len (hs0 _) hi (Law18Act.sub_id_ _)) ?_
          refine Dw.pure (i := 11) rfl (by kernel_rfl) (Want.none rfl) rfl (ltN rfl) (QP.move rfl rfl) ?_
          refine Dw.pure (i := 12) rfl (by kernel_rfl) (Want.none rfl) rfl (ltN rfl) (QP.move rfl rfl) ?_
          refine Dw.pure (i := 13) rfl (by kernel_rfl) (Want.none rfl) rfl (ltN rfl) (QP.indexAddr rfl rfl rfl Try.underlying22 z47 (by first | omega | (simp only [List.length_map, List.length_append, List.length_cons, List.length_nil, List.length_take, List.length_drop]; omega)) (by first | omega | (simp only [List.length_map, List.length_append, List.length_cons, List.length_nil, List.length_take, List.length_drop]; omega))) ?_
          refine Dw.pure (i := 14) rfl (by kernel_rfl) (Want.none rfl) rfl (ltN rfl) (QP.fieldAddr rfl rfl f47_4) ?_
          refine Dw.pure (i := 15) rfl (by kernel_rfl) (Want.none rfl) rfl (ltN rfl) (QP.fieldAddr rfl rfl f45_0) ?_
          refine Dw.read (i := 16) rfl (by kernel_rfl) (Want.none rfl) rfl (ltN rfl) (QR.loadSlF1 rfl rfl g31 Law18Act.enc_len (hs0 _) hi ((Law18Act.sub_d _).trans (Distance.sub_seqno _))) ?_
          refine Dw.eff (i := 17) (by kernel_rfl) (by kernel_rfl) ?_
          refine One.mk (o := _) (l := []) rfl (by kernel_rfl) (Want.none rfl) rfl (ltN rfl) (EF.call rfl ce11 rfl (.cons (by repeat (first | exact Pick.head | apply Pick.tail)) Takes.nil) (fun F' hle hr => askT F' _ (by omega) (by omega) _ _ _)) (by kernel_rfl) ?_
          rintro _ _ ⟨_, ⟨rfl, rfl⟩, rfl⟩
          refine ⟨fun _ h => (by cases h), ?_⟩
          refine J.app ?_
          refine Dw.nil (by kernel_rfl) ?_
          refine hk12 _ _ ?_
          refine Run.region ?_
          show Sq _ _ _ [0, 1, 2] _ _ _ _
          refine Sq.quiet (i := 0) rfl (Want.none rfl) rfl (ltN rfl) (QP.move rfl rfl).read ?_
          refine Sq.quiet (i := 1) rfl (Want.none rfl) rfl (ltN rfl) (QP.add64 rfl rfl rfl (by first | omega | (simp only [List.length_map, List.length_append, List.length_cons, List.length_nil, List.length_take, List.length_drop]; omega)) (by first | omega | (simp only [List.length_map, List.length_append, List.length_cons, List.length_nil, List.length_take, List.length_drop]; omega))).read ?_
          refine Sq.quiet (i := 2) rfl (Want.none rfl) rfl (ltN rfl) (QP.assign rfl rfl).read ?_
          refine Sq.nil ?_
          exact J.envJ (J.keep (.cons (by repeat (first | exact Pick.head | apply Pick.tail)) (.cons (by repeat (first | exact Pick.head | apply Pick.tail)) (.cons (by repeat (first | exact Pick.head | apply Pick.tail)) Takes.nil))) (hl9 (i + 1) ((askF 151 M 0 x.p x.id_ x.d.seqno).2.2) (⟨by omega, keyed_ask hkey, other_ask c49 hoth, by have := @len_ask1 151 M 0 x.p x.id_ x.d.seqno; omega⟩) (by omega))) ⟨rfl, rfl, rfl, rfl, rfl, rfl, trivial⟩
        · skip
          refine Dw.pure (i := 14) rfl (by kernel_rfl) (Want.none rfl) rfl (ltN rfl) (QP.pick_t rfl rfl rfl) ?_
          refine Dw.nil (by kernel_rfl) ?_
          refine hk13 _ _ ?_
          refine Run.cond_f rfl ?_
          refine Run.skip ?_
          refine hk12 _ _ ?_
          refine Run.region ?_
          show Sq _ _ _ [0, 1, 2] _ _ _ _
          refine Sq.quiet (i := 0) rfl (Want.none rfl) rfl (ltN rfl) (QP.move rfl rfl).read ?_
          refine Sq.quiet (i := 1) rfl (Want.none rfl) rfl (ltN rfl) (QP.add64 rfl rfl rfl (by first | omega | (simp only [List.length_map, List.length_append, List.length_cons, List.length_nil, List.length_take, List.length_drop]; omega)) (by first | omega | (simp only [List.length_map, List.length_append, List.length_cons, List.length_nil, List.length_take, List.length_drop]; omega))).read ?_
          refine Sq.quiet (i := 2) rfl (Want.none rfl) rfl (ltN rfl) (QP.assign rfl rfl).read ?_
          refine Sq.nil ?_
          exact J.envJ (J.keep (.cons (by repeat (first | exact Pick.head | apply Pick.tail)) (.cons (by repeat (first | exact Pick.head | apply Pick.tail)) (.cons (by repeat (first | exact Pick.head | apply Pick.tail)) Takes.nil))) (hl9 (i + 1) (M) (⟨by omega, hkey, hoth, by omega⟩) (by omega))) ⟨rfl, rfl, rfl, rfl, rfl, rfl, trivial⟩
      · skip
        refine Dw.pure (i := 6) rfl (by kernel_rfl) (Want.none rfl) rfl (ltN rfl) (QP.move rfl rfl) ?_
        refine Dw.skip (i := 7) rfl (by kernel_rfl) (Want.no rfl rfl rfl rfl) rfl (ltN rfl) ?_
        refine Dw.skip (i := 8) rfl (by kernel_rfl) (Want.no rfl rfl rfl rfl) rfl (ltN rfl) ?_
        refine Dw.skip (i := 9) rfl (by kernel_rfl) (Want.no rfl rfl rfl rfl) rfl (ltN rfl) ?_
        refine Dw.skip (i := 10) rfl (by kernel_rfl) (Want.no rfl rfl rfl rfl) rfl (ltN rfl) ?_
        refine Dw.skip (i := 11) rfl (by kernel_rfl) (Want.no rfl rfl rfl rfl) rfl (ltN rfl) ?_
        refine Dw.skip (i := 12) rfl (by kernel_rfl) (Want.no rfl rfl rfl rfl) rfl (ltN rfl) ?_
        refine Dw.skip (i := 13) rfl (by kernel_rfl) (Want.no rfl rfl rfl rfl) rfl (ltN rfl) ?_
        refine Dw.pure (i := 14) rfl (by kernel_rfl) (Want.none rfl) rfl (ltN rfl) (QP.pick_f rfl rfl rfl) ?_
        refine Dw.nil (by kernel_rfl) ?_
        refine hk13 _ _ ?_
        refine Run.cond_f rfl ?_
        refine Run.skip ?_
        refine hk12 _ _ ?_
        refine Run.region ?_
        show Sq _ _ _ [0, 1, 2] _ _ _ _
        refine Sq.quiet (i := 0) rfl (Want.none rfl) rfl (ltN rfl) (QP.move rfl rfl).read ?_
        refine Sq.quiet (i := 1) rfl (Want.none rfl) rfl (ltN rfl) (QP.add64 rfl rfl rfl (by first | omega | (simp only [List.length_map, List.length_append, List.length_cons, List.length_nil, List.length_take, List.length_drop]; omega)) (by first | omega | (simp only [List.length_map, List.length_append, List.length_cons, List.length_nil, List.length_take, List.length_drop]; omega))).read ?_
        refine Sq.quiet (i := 2) rfl (Want.none rfl) rfl (ltN rfl) (QP.assign rfl rfl).read ?_
        refine Sq.nil ?_
        exact J.envJ (J.keep (.cons (by repeat (first | exact Pick.head | apply Pick.tail)) (.cons (by repeat (first | exact Pick.head | apply Pick.tail)) (.cons (by repeat (first | exact Pick.head | apply Pick.tail)) Takes.nil))) (hl9 (i + 1) (M) (⟨by omega, hkey, hoth, by omega⟩) (by omega))) ⟨rfl, rfl, rfl, rfl, rfl, rfl, trivial⟩
    · skip
      refine Sq.nil ?_
      refine hk11 _ _ ?_
      refine Run.cond_f rfl ?_
      refine Run.exit rfl ?_
      refine hk7 _ _ ?_
      refine Run.seq fun k14 hk14 => ?_
      refine Run.region ?_
      show Sq _ _ _ [0, 1, 2, 3] _ _ _ _
      have hix : i = xs.length := by omega
      have hM150 : M.length ≤ 150 := by omega
      refine Sq.quiet (i := 0) rfl (Want.none rfl) rfl (ltN rfl) (QP.move rfl rfl).read ?_
      refine Sq.eff (i := 1) rfl (Want.none rfl) rfl (ltN rfl) (EF.call rfl ce13 rfl (.cons (by repeat (first | exact Pick.head | apply Pick.tail)) Takes.nil) (fun F' hle hr => listN F' (M := M) (by omega))) ?_
      rintro v70 _ ⟨_, ⟨ys70, hy70, rfl⟩, rfl⟩
      refine J.app ?_
      refine J.slHead (v := v70) (xs := ys70) (by repeat (first | exact List.Mem.head _ | apply List.Mem.tail)) (fun a70 c70 hv70 hs70 => ?_)
      subst hv70
      show Sq _ _ _ _ _ _ _ _
      refine Sq.quiet (i := 2) rfl (Want.none rfl) rfl (ltN rfl) (QP.len rfl rfl rfl Try.underlying40).read ?_
      refine Sq.quiet (i := 3) rfl (Want.none rfl) rfl (ltN rfl) (QP.assign rfl rfl).read ?_
      refine Sq.nil ?_
      refine hk14 _ _ ?_
      refine Run.seq fun k15 hk15 => ?_
      refine Run.region ?_
      show Sq _ _ _ [0, 1, 2, 3, 4, 5, 6, 7, 8, 9] _ _ _ _
      refine Sq.quiet (i := 0) rfl (Want.none rfl) rfl (ltN rfl) (QP.move rfl rfl).read ?_
      refine Sq.quiet (i := 1) rfl (Want.none rfl) rfl (ltN rfl) (QR.load rfl rfl g28 (Pair.enc_sub _)) ?_
      refine Sq.quiet (i := 2) rfl (Want.none rfl) rfl (ltN rfl) (QR.load rfl rfl g30 (Bs.sub _)) ?_
      refine Sq.quiet (i := 3) rfl (Want.none rfl) rfl (ltN rfl) (QP.move rfl rfl).read ?_
      refine Sq.eff (i := 4) rfl (Want.none rfl) rfl (ltN rfl) (EF.call rfl ce11 rfl (.cons (by repeat (first | exact Pick.head | apply Pick.tail)) Takes.nil) (fun F' hle hr => (askT F' (b := b27) (most := 151) (M := M) 0 (by omega) (by omega) p id q).mono (R' := fun v S => v = .tuple #[.bool true, .int .i64 0] ∧ S = [QTab b27 151 (aset M ⟨p, id⟩ ⟨p, id, q, 1, 0 + 2000⟩)]) (by rintro v S ⟨h1, h2⟩; rw [ask_new hoth hM150 0 q] at h1 h2; exact ⟨h1, h2⟩))) ?_
      rintro _ _ ⟨_, ⟨rfl, rfl⟩, rfl⟩
      refine J.app ?_
      refine Sq.quiet (i := 5) rfl (Want.none rfl) rfl (ltN rfl) (QP.move rfl rfl).read ?_
      refine Sq.quiet (i := 6) rfl (Want.none rfl) rfl (ltN rfl) (QP.extract rfl rfl rfl).read ?_
      refine Sq.quiet (i := 7) rfl (Want.none rfl) rfl (ltN rfl) (QP.extract rfl rfl rfl).read ?_
      refine Sq.quiet (i := 8) rfl (Want.none rfl) rfl (ltN rfl) (QP.assign rfl rfl).read ?_
      refine Sq.quiet (i := 9) rfl (Want.none rfl) rfl (ltN rfl) (QP.assign rfl rfl).read ?_
      refine Sq.nil ?_
      refine hk15 _ _ ?_
      refine Run.seq fun k16 hk16 => ?_
      refine Run.region ?_
      show Sq _ _ _ [0, 1, 2, 3, 4, 5, 6, 7, 8, 9] _ _ _ _
      refine Sq.quiet (i := 0) rfl (Want.none rfl) rfl (ltN rfl) (QP.move rfl rfl).read ?_
      refine Sq.quiet (i := 1) rfl (Want.none rfl) rfl (ltN rfl) (QR.load rfl rfl g28 (Pair.enc_sub _)) ?_
      refine Sq.quiet (i := 2) rfl (Want.none rfl) rfl (ltN rfl) (QR.load rfl rfl g30 (Bs.sub _)) ?_
      refine Sq.quiet (i := 3) rfl (Want.none rfl) rfl (ltN rfl) (QP.move rfl rfl).read ?_
      refine Sq.eff (i := 4) rfl (Want.none rfl) rfl (ltN rfl) (EF.call rfl ce11 rfl (.cons (by repeat (first | exact Pick.head | apply Pick.tail)) Takes.nil) (fun F' hle hr => (askT F' (b := b27) (most := 151) (M := (aset M ⟨p, id⟩ ⟨p, id, q, 1, 0 + 2000⟩)) 1 (by omega) (by omega) p id q).mono (R' := fun v S => v = .tuple #[.bool false, .int .i64 0] ∧ S = [QTab b27 151 (aset M ⟨p, id⟩ ⟨p, id, q, 1, 0 + 2000⟩)]) (by rintro v S ⟨h1, h2⟩; rw [ask_old 1 q (less_self q)] at h1 h2; exact ⟨h1, h2⟩))) ?_
      rintro _ _ ⟨_, ⟨rfl, rfl⟩, rfl⟩
      refine J.app ?_
      refine Sq.quiet (i := 5) rfl (Want.none rfl) rfl (ltN rfl) (QP.move rfl rfl).read ?_
      refine Sq.quiet (i := 6) rfl (Want.none rfl) rfl (ltN rfl) (QP.extract rfl rfl rfl).read ?_
      refine Sq.quiet (i := 7) rfl (Want.none rfl) rfl (ltN rfl) (QP.extract rfl rfl rfl).read ?_
      refine Sq.quiet (i := 8) rfl (Want.none rfl) rfl (ltN rfl) (QP.assign rfl rfl).read ?_
      refine Sq.quiet (i := 9) rfl (Want.none rfl) rfl (ltN rfl) (QP.assign rfl rfl).read ?_
      refine Sq.nil ?_
      refine hk16 _ _ ?_
      refine Run.seq fun k17 hk17 => ?_
      refine Run.region ?_
      show Sq _ _ _ [0, 1, 2, 3, 4, 5, 6, 7, 8, 9, 10] _ _ _ _
      refine Sq.quiet (i := 0) rfl (Want.none rfl) rfl (ltN rfl) (QP.move rfl rfl).read ?_
      refine Sq.quiet (i := 1) rfl (Want.none rfl) rfl (ltN rfl) (QR.load rfl rfl g28 (Pair.enc_sub _)) ?_
      refine Sq.quiet (i := 2) rfl (Want.none rfl) rfl (ltN rfl) (QR.load rfl rfl g30 (Bs.sub _)) ?_
      refine Sq.quiet (i := 3) rfl (Want.none rfl) rfl (ltN rfl) (QP.move rfl rfl).read ?_
      refine Sq.quiet (i := 4) rfl (Want.none rfl) rfl (ltN rfl) (QP.sub rfl rfl rfl).read ?_
      refine Sq.eff (i := 5) rfl (Want.none rfl) rfl (ltN rfl) (EF.call rfl ce11 rfl (.cons (by repeat (first | exact Pick.head | apply Pick.tail)) Takes.nil) (fun F' hle hr => (askT F' (b := b27) (most := 151) (M := (aset M ⟨p, id⟩ ⟨p, id, q, 1, 0 + 2000⟩)) 1 (by omega) (by omega) p id (IntKind.u16.wrap (q - 1))).mono (R' := fun v S => v = .tuple #[.bool false, .int .i64 0] ∧ S = [QTab b27 151 (aset M ⟨p, id⟩ ⟨p, id, q, 1, 0 + 2000⟩)]) (by rintro v S ⟨h1, h2⟩; rw [ask_old 1 (IntKind.u16.wrap (q - 1)) (less_back hq0 hq1)] at h1 h2; exact ⟨h1, h2⟩))) ?_
      rintro _ _ ⟨_, ⟨rfl, rfl⟩, rfl⟩
      refine J.app ?_
      refine Sq.quiet (i := 6) rfl (Want.none rfl) rfl (ltN rfl) (QP.move rfl rfl).read ?_
      refine Sq.quiet (i := 7) rfl (Want.none rfl) rfl (ltN rfl) (QP.extract rfl rfl rfl).read ?_
      refine Sq.quiet (i := 8) rfl (Want.none rfl) rfl (ltN rfl) (QP.extract rfl rfl rfl).read ?_
      refine Sq.quiet (i := 9) rfl (Want.none rfl) rfl (ltN rfl) (QP.assign rfl rfl).read ?_
      refine Sq.quiet (i := 10) rfl (Want.none rfl) rfl (ltN rfl) (QP.assign rfl rfl).read ?_
      refine Sq.nil ?_
      refine hk17 _ _ ?_
      refine Run.seq fun k18 hk18 => ?_
      refine Run.region ?_
      show Sq _ _ _ [0, 1, 2, 3, 4, 5, 6] _ _ _ _
      refine Sq.quiet (i := 0) rfl (Want.none rfl) rfl (ltN rfl) (QP.move rfl rfl).read ?_
      refine Sq.quiet (i := 1) rfl (Want.none rfl) rfl (ltN rfl) (QR.load rfl rfl g28 (Pair.enc_sub _)) ?_
      refine Sq.quiet (i := 2) rfl (Want.none rfl) rfl (ltN rfl) (QR.load rfl rfl g30 (Bs.sub _)) ?_
      refine Sq.quiet (i := 3) rfl (Want.none rfl) rfl (ltN rfl) (QP.move rfl rfl).read ?_
      refine Sq.quiet (i := 4) rfl (Want.none rfl) rfl (ltN rfl) (QP.build (l := Distance.enc ⟨(q), (65535)⟩) rfl st45 rfl (by exact ⟨rfl, ⟨rfl, trivial⟩⟩) rfl).read ?_
      refine Sq.eff (i := 5) rfl (Want.none rfl) rfl (ltN rfl) (EF.call rfl ce15 rfl (.cons (by repeat (first | exact Pick.head | apply Pick.tail)) Takes.nil) (fun F' hle hr => (metT F' (b := b27) (most := 151) (M := (aset M ⟨p, id⟩ ⟨p, id, q, 1, 0 + 2000⟩)) p id ⟨q, 65535⟩).mono (R' := fun v S => v = .bool false ∧ S = [QTab b27 151 (aset M ⟨p, id⟩ ⟨p, id, q, 1, 0 + 2000⟩)]) (by rintro v S ⟨h1, h2⟩; rw [met_no (by simp [meetsB])] at h1 h2; exact ⟨h1, h2⟩))) ?_
      rintro _ _ ⟨_, ⟨rfl, rfl⟩, rfl⟩
      refine J.app ?_
      refine Sq.quiet (i := 6) rfl (Want.none rfl) rfl (ltN rfl) (QP.assign rfl rfl).read ?_
      refine Sq.nil ?_
      refine hk18 _ _ ?_
      refine Run.seq fun k19 hk19 => ?_
      refine Run.region ?_
      show Sq _ _ _ [0, 1, 2, 3, 4, 5, 6, 7] _ _ _ _
      refine Sq.quiet (i := 0) rfl (Want.none rfl) rfl (ltN rfl) (QP.move rfl rfl).read ?_
      refine Sq.quiet (i := 1) rfl (Want.none rfl) rfl (ltN rfl) (QR.load rfl rfl g28 (Pair.enc_sub _)) ?_
      refine Sq.quiet (i := 2) rfl (Want.none rfl) rfl (ltN rfl) (QR.load rfl rfl g30 (Bs.sub _)) ?_
      refine Sq.quiet (i := 3) rfl (Want.none rfl) rfl (ltN rfl) (QP.move rfl rfl).read ?_
      refine Sq.quiet (i := 4) rfl (Want.none rfl) rfl (ltN rfl) (QP.sub rfl rfl rfl).read ?_
      refine Sq.quiet (i := 5) rfl (Want.none rfl) rfl (ltN rfl) (QP.build (l := Distance.enc ⟨_, (1)⟩) rfl st45 rfl (by exact ⟨rfl, ⟨rfl, trivial⟩⟩) rfl).read ?_
      refine Sq.eff (i := 6) rfl (Want.none rfl) rfl (ltN rfl) (EF.call rfl ce15 rfl (.cons (by repeat (first | exact Pick.head | apply Pick.tail)) Takes.nil) (fun F' hle hr => (metT F' (b := b27) (most := 151) (M := (aset M ⟨p, id⟩ ⟨p, id, q, 1, 0 + 2000⟩)) p id ⟨(IntKind.u16.wrap (q - 1)), 1⟩).mono (R' := fun v S => v = .bool false ∧ S = [QTab b27 151 (aset M ⟨p, id⟩ ⟨p, id, q, 1, 0 + 2000⟩)]) (by rintro v S ⟨h1, h2⟩; rw [met_no (by simp [meetsB, less_next hq0 hq1])] at h1 h2; exact ⟨h1, h2⟩))) ?_
      rintro _ _ ⟨_, ⟨rfl, rfl⟩, rfl⟩
      refine J.app ?_
      refine Sq.quiet (i := 7) rfl (Want.none rfl) rfl (ltN rfl) (QP.assign rfl rfl).read ?_
      refine Sq.nil ?_
      refine hk19 _ _ ?_
      refine Run.seq fun k20 hk20 => ?_
      refine Run.region ?_
      show Sq _ _ _ [0, 1, 2, 3, 4, 5, 6] _ _ _ _
      refine Sq.quiet (i := 0) rfl (Want.none rfl) rfl (ltN rfl) (QP.move rfl rfl).read ?_
      refine Sq.quiet (i := 1) rfl (Want.none rfl) rfl (ltN rfl) (QR.load rfl rfl g28 (Pair.enc_sub _)) ?_
      refine Sq.quiet (i := 2) rfl (Want.none rfl) rfl (ltN rfl) (QR.load rfl rfl g30 (Bs.sub _)) ?_
      refine Sq.quiet (i := 3) rfl (Want.none rfl) rfl (ltN rfl) (QP.move rfl rfl).read ?_
      refine Sq.quiet (i := 4) rfl (Want.none rfl) rfl (ltN rfl) (QP.build (l := Distance.enc ⟨(q), (1)⟩) rfl st45 rfl (by exact ⟨rfl, ⟨rfl, trivial⟩⟩) rfl).read ?_
      refine Sq.eff (i := 5) rfl (Want.none rfl) rfl (ltN rfl) (EF.call rfl ce15 rfl (.cons (by repeat (first | exact Pick.head | apply Pick.tail)) Takes.nil) (fun F' hle hr => (metT F' (b := b27) (most := 151) (M := (aset M ⟨p, id⟩ ⟨p, id, q, 1, 0 + 2000⟩)) p id ⟨q, 1⟩).mono (R' := fun v S => v = .bool true ∧ S = [QTab b27 151 M]) (by rintro v S ⟨h1, h2⟩; rw [met_yes hoth (by simp only [meetsB, less_self]; simp [wrap_u16])] at h1 h2; exact ⟨h1, h2⟩))) ?_
      rintro _ _ ⟨_, ⟨rfl, rfl⟩, rfl⟩
      refine J.app ?_
      refine Sq.quiet (i := 6) rfl (Want.none rfl) rfl (ltN rfl) (QP.assign rfl rfl).read ?_
      refine Sq.nil ?_
      refine hk20 _ _ ?_
      refine Run.seq fun k21 hk21 => ?_
      refine Run.region ?_
      show Sq _ _ _ [0, 1, 2, 3, 4, 5, 6, 7, 8, 9, 10] _ _ _ _
      refine Sq.quiet (i := 0) rfl (Want.none rfl) rfl (ltN rfl) (QP.move rfl rfl).read ?_
      refine Sq.quiet (i := 1) rfl (Want.none rfl) rfl (ltN rfl) (QR.load rfl rfl g28 (Pair.enc_sub _)) ?_
      refine Sq.quiet (i := 2) rfl (Want.none rfl) rfl (ltN rfl) (QR.load rfl rfl g30 (Bs.sub _)) ?_
      refine Sq.quiet (i := 3) rfl (Want.none rfl) rfl (ltN rfl) (QP.move rfl rfl).read ?_
      refine Sq.quiet (i := 4) rfl (Want.none rfl) rfl (ltN rfl) (QP.sub rfl rfl rfl).read ?_
      refine Sq.eff (i := 5) rfl (Want.none rfl) rfl (ltN rfl) (EF.call rfl ce11 rfl (.cons (by repeat (first | exact Pick.head | apply Pick.tail)) Takes.nil) (fun F' hle hr => (askT F' (b := b27) (most := 151) (M := M) 2 (by omega) (by omega) p id (IntKind.u16.wrap (q - 1))).mono (R' := fun v S => v = .tuple #[.bool true, .int .i64 0] ∧ S = [QTab b27 151 (aset M ⟨p, id⟩ ⟨p, id, (IntKind.u16.wrap (q - 1)), 1, 2 + 2000⟩)]) (by rintro v S ⟨h1, h2⟩; rw [ask_new hoth hM150 2 (IntKind.u16.wrap (q - 1))] at h1 h2; exact ⟨h1, h2⟩))) ?_
      rintro _ _ ⟨_, ⟨rfl, rfl⟩, rfl⟩
      refine J.app ?_
      refine Sq.quiet (i := 6) rfl (Want.none rfl) rfl (ltN rfl) (QP.move rfl rfl).read ?_
      refine Sq.quiet (i := 7) rfl (Want.none rfl) rfl (ltN rfl) (QP.extract rfl rfl rfl).read ?_
      refine Sq.quiet (i := 8) rfl (Want.none rfl) rfl (ltN rfl) (QP.extract rfl rfl rfl).read ?_
      refine Sq.quiet (i := 9) rfl (Want.none rfl) rfl (ltN rfl) (QP.assign rfl rfl).read ?_
      refine Sq.quiet (i := 10) rfl (Want.none rfl) rfl (ltN rfl) (QP.assign rfl rfl).read ?_
      refine Sq.nil ?_
      refine hk21 _ _ ?_
      refine Run.seq fun k22 hk22 => ?_
      refine Run.region ?_
      show Sq _ _ _ [0, 1, 2, 3, 4, 5, 6, 7, 8, 9, 10, 11, 12, 13, 14, 15, 16, 17, 18, 19, 20, 21, 22, 23, 24, 25, 26, 27, 28, 29, 30, 31, 32, 33, 34, 35, 36, 37, 38, 39, 40, 41, 42, 43, 44, 45, 46, 47, 48] _ _ _ _
      refine Sq.quiet (i := 0) rfl (Want.none rfl) rfl (ltN rfl) (QP.move rfl rfl).read ?_
      refine Sq.quiet (i := 1) rfl (Want.none rfl) rfl (ltN rfl) (QP.move rfl rfl).read ?_
      refine Sq.quiet (i := 2) rfl (Want.yes rfl rfl rfl rfl) rfl (ltN rfl) (QP.move rfl rfl).read ?_
      refine Sq.quiet (i := 3) rfl (Want.yes rfl rfl rfl rfl) rfl (ltN rfl) (QP.not rfl rfl).read ?_
      refine Sq.quiet (i := 4) rfl (Want.none rfl) rfl (ltN rfl) (QP.pick_t rfl rfl rfl).read ?_
      refine Sq.quiet (i := 5) rfl (Want.none rfl) rfl (ltN rfl) (QP.move rfl rfl).read ?_
      refine Sq.quiet (i := 6) rfl (Want.yes rfl rfl rfl rfl) rfl (ltN rfl) (QP.move rfl rfl).read ?_
      refine Sq.quiet (i := 7) rfl (Want.yes rfl rfl rfl rfl) rfl (ltN rfl) (QP.not rfl rfl).read ?_
      refine Sq.quiet (i := 8) rfl (Want.none rfl) rfl (ltN rfl) (QP.pick_t rfl rfl rfl).read ?_
      refine Sq.quiet (i := 9) rfl (Want.none rfl) rfl (ltN rfl) (QP.move rfl rfl).read ?_
      refine Sq.quiet (i := 10) rfl (Want.yes rfl rfl rfl rfl) rfl (ltN rfl) (QP.move rfl rfl).read ?_
      refine Sq.quiet (i := 11) rfl (Want.yes rfl rfl rfl rfl) rfl (ltN rfl) (QP.not rfl rfl).read ?_
      refine Sq.quiet (i := 12) rfl (Want.none rfl) rfl (ltN rfl) (QP.pick_t rfl rfl rfl).read ?_
      refine Sq.quiet (i := 13) rfl (Want.none rfl) rfl (ltN rfl) (QP.move rfl rfl).read ?_
      refine Sq.quiet (i := 14) rfl (Want.yes rfl rfl rfl rfl) rfl (ltN rfl) (QP.move rfl rfl).read ?_
      refine Sq.quiet (i := 15) rfl (Want.yes rfl rfl rfl rfl) rfl (ltN rfl) (QP.not rfl rfl).read ?_
      refine Sq.quiet (i := 16) rfl (Want.none rfl) rfl (ltN rfl) (QP.pick_t rfl rfl rfl).read ?_
      refine Sq.quiet (i := 17) rfl (Want.none rfl) rfl (ltN rfl) (QP.move rfl rfl).read ?_
      refine Sq.quiet (i := 18) rfl (Want.yes rfl rfl rfl rfl) rfl (ltN rfl) (QP.move rfl rfl).read ?_
      refine Sq.quiet (i := 19) rfl (Want.none rfl) rfl (ltN rfl) (QP.pick_t rfl rfl rfl).read ?_
      refine Sq.quiet (i := 20) rfl (Want.none rfl) rfl (ltN rfl) (QP.move rfl rfl).read ?_
      refine Sq.quiet (i := 21) rfl (Want.yes rfl rfl rfl rfl) rfl (ltN rfl) (QP.move rfl rfl).read ?_
      refine Sq.quiet (i := 22) rfl (Want.none rfl) rfl (ltN rfl) (QP.pick_t rfl rfl rfl).read ?_
      refine Sq.quiet (i := 23) rfl (Want.none rfl) rfl (ltN rfl) (QP.move rfl rfl).read ?_
      refine Sq.quiet (i := 24) rfl (Want.yes rfl rfl rfl rfl) rfl (ltN rfl) (QP.move rfl rfl).read ?_
      refine Sq.eff (i := 25) rfl (Want.yes rfl rfl rfl rfl) rfl (ltN rfl) (EF.call rfl ce13 rfl (.cons (by repeat (first | exact Pick.head | apply Pick.tail)) Takes.nil) (fun F' hle hr => listN F' (M := (aset M ⟨p, id⟩ ⟨p, id, (IntKind.u16.wrap (q - 1)), 1, 2 + 2000⟩)) (by rw [len_aset]; split <;> omega))) ?_
      rintro v150 _ ⟨_, ⟨ys150, hy150, rfl⟩, rfl⟩
      refine J.app ?_
      refine J.slHead (v := v150) (xs := ys150) (by repeat (first | exact List.Mem.head _ | apply List.Mem.tail)) (fun a150 c150 hv150 hs150 => ?_)
      subst hv150
      show Sq _ _ _ _ _ _ _ _
      refine Sq.quiet (i := 26) rfl (Want.yes rfl rfl rfl rfl) rfl (ltN rfl) (QP.len rfl rfl rfl Try.underlying40).read ?_
      refine Sq.quiet (i := 27) rfl (Want.yes rfl rfl rfl rfl) rfl (ltN rfl) (QP.move rfl rfl).read ?_
      refine Sq.quiet (i := 28) rfl (Want.yes rfl rfl rfl rfl) rfl (ltN rfl) (QP.add64 rfl rfl rfl (by first | omega | (simp only [List.length_map, List.length_append, List.length_cons, List.length_nil, List.length_take, List.length_drop]; omega)) (by first | omega | (simp only [List.length_map, List.length_append, List.length_cons, List.length_nil, List.length_take, List.length_drop]; omega))).read ?_
      refine Sq.quiet (i := 29) rfl (Want.yes rfl rfl rfl rfl) rfl (ltN rfl) (QP.eql rfl rfl rfl).read ?_
      refine J.decT (by rw [hy150, hy70, len_aset, none_of hoth]; simp) ?_
      refine Sq.quiet (i := 30) rfl (Want.none rfl) rfl (ltN rfl) (QP.pick_t rfl rfl rfl).read ?_
      refine Sq.quiet (i := 31) rfl (Want.none rfl) rfl (ltN rfl) (QP.move rfl rfl).read ?_
      refine Sq.quiet (i := 32) rfl (Want.yes rfl rfl rfl rfl) rfl (ltN rfl) (QP.move rfl rfl).read ?_
      refine Sq.quiet (i := 33) rfl (Want.yes rfl rfl rfl rfl) rfl (ltN rfl) (QR.load rfl rfl g28 (Pair.enc_sub _)) ?_
      refine Sq.eff (i := 34) rfl (Want.yes rfl rfl rfl rfl) rfl (ltN rfl) (EF.buildSlice1 rfl Try.underlying83 z28 zero28 (by simp [Value.cells, Pair.enc_len]) (by decide) rfl rfl (Pair.enc_len _) (by decide)) ?_
      rintro _ _ ⟨b159, rfl, rfl⟩
      refine Sq.eff (i := 35) rfl (Want.yes rfl rfl rfl rfl) rfl (ltN rfl) (EF.call rfl ce16 rfl (.cons (by repeat (first | exact Pick.head | apply Pick.tail)) Takes.nil) (fun F' hle hr => (forgetQT F' (b := b27) (most := 151) (M := (aset M ⟨p, id⟩ ⟨p, id, (IntKind.u16.wrap (q - 1)), 1, 2 + 2000⟩)) (by rw [len_aset]; split <;> omega) (keyed_aset hkey ⟨p, id, IntKind.u16.wrap (q - 1), 1, 2 + 2000⟩) (a := some ⟨b159, 0, none⟩) (xs := [p]) (c := 1) (by simp) (fun _ => ⟨b159, 0, rfl, Pair.enc p, _, (0, 0), hr _ _ (by repeat (first | exact List.Mem.head _ | apply List.Mem.tail)), by simpa using Pair.enc_sub p⟩)).mono (R' := fun v S => v = .int .i64 1 ∧ S = [QTab b27 151 M]) (by rintro v S ⟨h1, h2⟩; rw [(forget_one hoth hkey _ rfl).1] at h2; rw [(forget_one hoth hkey _ rfl).2] at h1; exact ⟨h1, h2⟩))) ?_
      rintro _ _ ⟨_, ⟨rfl, rfl⟩, rfl⟩
      refine J.app ?_
      refine Sq.quiet (i := 36) rfl (Want.yes rfl rfl rfl rfl) rfl (ltN rfl) (QP.eql rfl rfl rfl).read ?_
      refine Sq.quiet (i := 37) rfl (Want.none rfl) rfl (ltN rfl) (QP.pick_t rfl rfl rfl).read ?_
      refine Sq.quiet (i := 38) rfl (Want.none rfl) rfl (ltN rfl) (QP.move rfl rfl).read ?_
      refine Sq.quiet (i := 39) rfl (Want.yes rfl rfl rfl rfl) rfl (ltN rfl) (QP.move rfl rfl).read ?_
      refine Sq.eff (i := 40) rfl (Want.yes rfl rfl rfl rfl) rfl (ltN rfl) (EF.call rfl ce13 rfl (.cons (by repeat (first | exact Pick.head | apply Pick.tail)) Takes.nil) (fun F' hle hr => listN F' (M := M) (by omega))) ?_
      rintro v165 _ ⟨_, ⟨ys165, hy165, rfl⟩, rfl⟩
      refine J.app ?_
      refine J.slHead (v := v165) (xs := ys165) (by repeat (first | exact List.Mem.head _ | apply List.Mem.tail)) (fun a165 c165 hv165 hs165 => ?_)
      subst hv165
      show Sq _ _ _ _ _ _ _ _
      refine Sq.quiet (i := 41) rfl (Want.yes rfl rfl rfl rfl) rfl (ltN rfl) (QP.len rfl rfl rfl Try.underlying40).read ?_
      refine Sq.quiet (i := 42) rfl (Want.yes rfl rfl rfl rfl) rfl (ltN rfl) (QP.move rfl rfl).read ?_
      refine Sq.quiet (i := 43) rfl (Want.yes rfl rfl rfl rfl) rfl (ltN rfl) (QP.eql rfl rfl rfl).read ?_
      refine J.decT (by rw [hy165, hy70]) ?_
      refine Sq.quiet (i := 44) rfl (Want.none rfl) rfl (ltN rfl) (QP.pick_t rfl rfl rfl).read ?_
      refine Sq.quiet (i := 45) rfl (Want.none rfl) rfl (ltN rfl) (QP.move rfl rfl).read ?_
      refine Sq.eff (i := 46) rfl (Want.yes rfl rfl rfl rfl) rfl (ltN rfl) (EF.call rfl ce9 rfl Takes.nil (fun F' hle hr => live_spec F')) ?_
      rintro _ _ ⟨_, ⟨rfl, rfl⟩, rfl⟩
      refine J.app ?_
      refine Sq.quiet (i := 47) rfl (Want.none rfl) rfl (ltN rfl) (QP.pick_t rfl rfl rfl).read ?_
      refine Sq.quiet (i := 48) rfl (Want.none rfl) rfl (ltN rfl) (QP.assign rfl rfl).read ?_
      refine Sq.nil ?_
      refine hk22 _ _ ?_
      refine Run.ret ?_
      exact J.ends (res_tmp rfl rfl) Takes.nil ⟨rfl, rfl⟩
  · skip
    refine Sq.quiet (i := 2) rfl (Want.none rfl) rfl (ltN rfl) (QP.not rfl rfl).read ?_
    refine Sq.nil ?_
    refine hk3 _ _ ?_
    refine Run.cond_t rfl ?_
    refine Run.seq fun k23 hk23 => ?_
    refine Run.region ?_
    show Sq _ _ _ [0, 1] _ _ _ _
    refine Sq.eff (i := 0) rfl (Want.none rfl) rfl (ltN rfl) (EF.call rfl ce9 rfl Takes.nil (fun F' hle hr => live_spec F')) ?_
    rintro _ _ ⟨_, ⟨rfl, rfl⟩, rfl⟩
    refine J.app ?_
    refine Sq.quiet (i := 1) rfl (Want.none rfl) rfl (ltN rfl) (QP.assign rfl rfl).read ?_
    refine Sq.nil ?_
    refine hk23 _ _ ?_
    refine Run.ret ?_
    exact J.ends (res_tmp rfl rfl) Takes.nil ⟨rfl, rfl⟩
end Slb
