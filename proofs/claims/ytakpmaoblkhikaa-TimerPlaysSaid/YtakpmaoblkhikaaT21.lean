/- T21: a part of the proof that a law of this package holds for every input; no condition. -/
import Derived.Test.YtakpmaoblkhikaaT20
import Derived.Test.YtakpmaoblkhikaaM2
namespace Slb
open Go Go.Proofs
set_option maxRecDepth 20000
theorem cancelTwo (F : Fr) {b : Nat} {L : List Due} (hn : (L.map (·.name)).Nodup) {s : ByteArray} (hs : s.size ≤ maxLen) {an : Option Addr} {cn : Nat} (ha : ArgSl F an 1 (fun s => [Value.string s]) [s, s]) : Spec Try.prog 14 #[fp b, .slice an 2 cn] [QA b L] F
    fun v S => ∃ g : Int, v = .int .i64 g ∧ S = [QA b (delD L s)] ∧ (g = 1 ↔ hasD L s = true) ∧ 0 ≤ g ∧ g ≤ 1 := by
  obtain ⟨g, h1, h2, h3, h4, h5⟩ := cancel2 s hn
  refine (cancelA F (L := L) (ss := [s, s]) (by simp) ha (fun q hq => by simp only [List.mem_cons, List.not_mem_nil, or_false, or_self] at hq; subst hq; exact hs)).mono ?_
  rintro v S ⟨rfl, rfl⟩
  rw [h1]
  exact ⟨g, rfl, rfl, by rw [← h2]; simp, h4, h5⟩
theorem pop_len (L : List Due) (t : Int) : (popD L t).2.2.length ≤ L.length := by
  cases L with
  | nil => exact Nat.le_refl _
  | cons d L =>
    unfold popD
    simp only
    split <;> simp
theorem there_iff {L : List Due} (s : ByteArray) : (atD L s).isSome = hasD L s := by
  unfold atD hasD
  rw [Option.isSome_map]
  induction L with
  | nil => rfl
  | cons d L ih =>
    rw [List.find?_cons, List.any_cons]
    by_cases h : d.name = s
    · simp [h]
    · simp [h, ih]

def nOnly : Str := ⟨⟨#[111, 110, 108, 121, 32, 116, 104, 101, 114, 101]⟩, by decide⟩
set_option maxHeartbeats 600000 in
theorem law_plays (F : Fr) {a : Option Addr} {c : Nat} {xs : List Law04Act} (hx0 : xs.length ≤ 9223372036854775807) (ha : ArgSl F a 3 Law04Act.enc xs) (hw : ∀ x ∈ xs, x.WF)  : Spec Try.prog 7 #[.slice a xs.length c] [] F (fun v S => v = .bool true ∧ S = []) := by
 refine Spec.intro (N := 248) (args := [.slice a xs.length c]) Try.func7 rfl rfl (by simp) ?_
 refine Run.seq fun k1 hk1 => ?_
 refine Run.region ?_
 show Sq _ _ _ [0] _ _ _ _
 refine Sq.quiet (i := 0) rfl (Want.none rfl) rfl (ltN rfl) (QP.assign rfl rfl).read ?_
 refine Sq.nil ?_
 refine hk1 _ _ ?_
 refine Run.seq fun k2 hk2 => ?_
 refine Run.region ?_
 show Sq _ _ _ [0] _ _ _ _
 refine Sq.quiet (i := 0) rfl (Want.none rfl) rfl (ltN rfl) (QP.assign rfl rfl).read ?_
 refine Sq.nil ?_
 refine hk2 _ _ ?_
 refine Run.seq fun k3 hk3 => ?_
 refine Run.seq fun k4 hk4 => ?_
 refine Run.region ?_
 show Sq _ _ _ [0] _ _ _ _
 refine Sq.quiet (i := 0) rfl (Want.none rfl) rfl (ltN rfl) (QP.assign rfl rfl).read ?_
 refine Sq.nil ?_
 refine hk4 _ _ ?_
 refine Run.block ?_
 refine Run.loop2 (fun (i : Nat) (tot : Int) => i ≤ xs.length) (fun i tot => .cons 0 (.slice a xs.length c) (.cons 3 (.int .i64 tot) (.cons 4 (.int .i64 i) (.nil)))) (fun i tot => []) (fun i tot => xs.length - i) (0) (0) (Nat.zero_le _) ?_ ?_
 ·exact fun _ j => J.envJ (J.keep Takes.nil j) ⟨rfl, rfl, rfl, trivial⟩
 rintro i tot hile0 kl5 hl5
 refine Run.seq fun k6 hk6 => ?_
 refine Run.seq fun k7 hk7 => ?_
 refine Run.region ?_
 show Sq _ _ _ [0, 1, 2, 3, 4, 5, 6, 7] _ _ _ _
 refine Sq.quiet (i := 0) rfl (Want.none rfl) rfl (ltN rfl) (QP.move rfl rfl).read ?_
 refine Sq.quiet (i := 1) rfl (Want.none rfl) rfl (ltN rfl) (QP.move rfl rfl).read ?_
 refine Sq.quiet (i := 2) rfl (Want.none rfl) rfl (ltN rfl) (QP.len rfl rfl rfl Try.underlying32).read ?_
 refine Sq.quiet (i := 3) rfl (Want.none rfl) rfl (ltN rfl) (QP.lss rfl rfl rfl).read ?_
 refine J.caseD (fun c22 => ?_) (fun c22 => ?_)
 ·skip
  refine Sq.quiet (i := 4) rfl (Want.none rfl) rfl (ltN rfl) (QP.move rfl rfl).read ?_
  refine Sq.quiet (i := 5) rfl (Want.yes rfl rfl rfl rfl) rfl (ltN rfl) (QP.move rfl rfl).read ?_
  refine Sq.quiet (i := 6) rfl (Want.yes rfl rfl rfl rfl) rfl (ltN rfl) (QP.leq rfl rfl rfl).read ?_
  refine J.caseD (fun c25 => ?_) (fun c25 => ?_)
  ·skip
   refine Sq.quiet (i := 7) rfl (Want.none rfl) rfl (ltN rfl) (QP.pick_t rfl rfl rfl).read ?_
   refine Sq.nil ?_
   refine hk7 _ _ ?_
   refine Run.cond_t rfl ?_
   refine Run.skip ?_
   refine hk6 _ _ ?_
   refine Run.seq fun k8 hk8 => ?_
   refine Run.block ?_
   refine Run.region ?_
   show Sq _ _ _ [0, 1, 2, 3, 4, 5, 6, 7, 8] _ _ _ _
   obtain ⟨x, hj⟩ : ∃ x, xs[i]? = some x := ⟨_, List.getElem?_eq_getElem (by omega)⟩
   obtain ⟨b1, o1, hax, hs2⟩ := ha.get (by omega)
   have hxm := List.mem_of_getElem? hj
   obtain ⟨hxk, -, hxt⟩ := hw x hxm
   subst hax
   refine Sq.quiet (i := 0) rfl (Want.none rfl) rfl (ltN rfl) (QP.move rfl rfl).read ?_
   refine Sq.quiet (i := 1) rfl (Want.none rfl) rfl (ltN rfl) (QP.move rfl rfl).read ?_
   refine Sq.quiet (i := 2) rfl (Want.none rfl) rfl (ltN rfl) (QP.move rfl rfl).read ?_
   refine Sq.quiet (i := 3) rfl (Want.none rfl) rfl (ltN rfl) (QP.indexAddr rfl rfl rfl Try.underlying32 z35 (by first | omega | (simp <;> omega)) (by first | omega | (simp <;> omega))).read ?_
   refine Sq.quiet (i := 4) rfl (Want.none rfl) rfl (ltN rfl) (QP.fieldAddr rfl rfl f35_1).read ?_
   refine Sq.quiet (i := 5) rfl (Want.none rfl) rfl (ltN rfl) (QR.loadSlF1 rfl rfl g9 Law04Act.enc_len (hs2 _) hj (Law04Act.sub_name _)) ?_
   refine Sq.quiet (i := 6) rfl (Want.none rfl) rfl (ltN rfl) (QP.lenS rfl rfl rfl Try.underlying9).read ?_
   refine Sq.quiet (i := 7) rfl (Want.none rfl) rfl (ltN rfl) (QP.add rfl rfl rfl).read ?_
   refine Sq.quiet (i := 8) rfl (Want.none rfl) rfl (ltN rfl) (QP.assign rfl rfl).read ?_
   refine Sq.nil ?_
   refine hk8 _ _ ?_
   refine Run.region ?_
   show Sq _ _ _ [0, 1, 2] _ _ _ _
   refine Sq.quiet (i := 0) rfl (Want.none rfl) rfl (ltN rfl) (QP.move rfl rfl).read ?_
   refine Sq.quiet (i := 1) rfl (Want.none rfl) rfl (ltN rfl) (QP.add64 rfl rfl rfl (by first | omega | (simp <;> omega)) (by first | omega | (simp <;> omega))).read ?_
   refine Sq.quiet (i := 2) rfl (Want.none rfl) rfl (ltN rfl) (QP.assign rfl rfl).read ?_
   refine Sq.nil ?_
   exact J.envJ (J.keep Takes.nil (hl5 (i + 1) ((IntKind.i64.wrap (tot + x.name.size))) (by omega) (by omega))) ⟨rfl, rfl, rfl, trivial⟩
  ·skip
   refine Sq.quiet (i := 7) rfl (Want.none rfl) rfl (ltN rfl) (QP.pick_t rfl rfl rfl).read ?_
   refine Sq.nil ?_
   refine hk7 _ _ ?_
   refine Run.cond_f rfl ?_
   refine Run.exit rfl ?_
   refine hk3 _ _ ?_
   refine Run.seq fun k9 hk9 => ?_
   refine Run.seq fun k10 hk10 => ?_
   refine Run.region ?_
   show Sq _ _ _ [0, 1, 2, 3, 4, 5, 6] _ _ _ _
   refine Sq.quiet (i := 0) rfl (Want.none rfl) rfl (ltN rfl) (QP.move rfl rfl).read ?_
   refine Sq.quiet (i := 1) rfl (Want.none rfl) rfl (ltN rfl) (QP.len rfl rfl rfl Try.underlying32).read ?_
   refine Sq.quiet (i := 2) rfl (Want.none rfl) rfl (ltN rfl) (QP.gtr rfl rfl rfl).read ?_
   refine J.decT (by omega) ?_
   refine Sq.quiet (i := 3) rfl (Want.none rfl) rfl (ltN rfl) (QP.move rfl rfl).read ?_
   refine Sq.skip (i := 4) rfl (Want.no rfl rfl rfl rfl) rfl (ltN rfl) ?_
   refine Sq.skip (i := 5) rfl (Want.no rfl rfl rfl rfl) rfl (ltN rfl) ?_
   refine Sq.quiet (i := 6) rfl (Want.none rfl) rfl (ltN rfl) (QP.pick_t rfl rfl rfl).read ?_
   refine Sq.nil ?_
   refine hk10 _ _ ?_
   refine Run.cond_t rfl ?_
   refine Run.seq fun k11 hk11 => ?_
   refine Run.region ?_
   show Sq _ _ _ [0, 1] _ _ _ _
   refine Sq.eff (i := 0) rfl (Want.none rfl) rfl (ltN rfl) (EF.call rfl ce9 rfl Takes.nil (fun F' hle hr => live_spec F')) ?_
   rintro _ _ ⟨_, ⟨rfl, rfl⟩, rfl⟩
   refine J.app ?_
   refine Sq.quiet (i := 1) rfl (Want.none rfl) rfl (ltN rfl) (QP.assign rfl rfl).read ?_
   refine Sq.nil ?_
   refine hk11 _ _ ?_
   refine Run.ret ?_
   exact J.ends (res_tmp rfl rfl) Takes.nil ⟨rfl, rfl⟩
 ·skip
  refine Sq.quiet (i := 4) rfl (Want.none rfl) rfl (ltN rfl) (QP.move rfl rfl).read ?_
  refine Sq.skip (i := 5) rfl (Want.no rfl rfl rfl rfl) rfl (ltN rfl) ?_
  refine Sq.skip (i := 6) rfl (Want.no rfl rfl rfl rfl) rfl (ltN rfl) ?_
  refine Sq.quiet (i := 7) rfl (Want.none rfl) rfl (ltN rfl) (QP.pick_f rfl rfl rfl).read ?_
  refine Sq.nil ?_
  refine hk7 _ _ ?_
  refine Run.cond_f rfl ?_
  refine Run.exit rfl ?_
  refine hk3 _ _ ?_
  refine Run.seq fun k12 hk12 => ?_
  refine Run.seq fun k13 hk13 => ?_
  refine Run.region ?_
  show Sq _ _ _ [0, 1, 2, 3, 4, 5, 6] _ _ _ _
  refine Sq.quiet (i := 0) rfl (Want.none rfl) rfl (ltN rfl) (QP.move rfl rfl).read ?_
  refine Sq.quiet (i := 1) rfl (Want.none rfl) rfl (ltN rfl) (QP.len rfl rfl rfl Try.underlying32).read ?_
  refine Sq.quiet (i := 2) rfl (Want.none rfl) rfl (ltN rfl) (QP.gtr rfl rfl rfl).read ?_
  refine J.caseD (fun c39 => ?_) (fun c39 => ?_)
  ·skip
   refine Sq.quiet (i := 3) rfl (Want.none rfl) rfl (ltN rfl) (QP.move rfl rfl).read ?_
   refine Sq.skip (i := 4) rfl (Want.no rfl rfl rfl rfl) rfl (ltN rfl) ?_
   refine Sq.skip (i := 5) rfl (Want.no rfl rfl rfl rfl) rfl (ltN rfl) ?_
   refine Sq.quiet (i := 6) rfl (Want.none rfl) rfl (ltN rfl) (QP.pick_t rfl rfl rfl).read ?_
   refine Sq.nil ?_
   refine hk13 _ _ ?_
   refine Run.cond_t rfl ?_
   refine Run.seq fun k14 hk14 => ?_
   refine Run.region ?_
   show Sq _ _ _ [0, 1] _ _ _ _
   refine Sq.eff (i := 0) rfl (Want.none rfl) rfl (ltN rfl) (EF.call rfl ce9 rfl Takes.nil (fun F' hle hr => live_spec F')) ?_
   rintro _ _ ⟨_, ⟨rfl, rfl⟩, rfl⟩
   refine J.app ?_
   refine Sq.quiet (i := 1) rfl (Want.none rfl) rfl (ltN rfl) (QP.assign rfl rfl).read ?_
   refine Sq.nil ?_
   refine hk14 _ _ ?_
   refine Run.ret ?_
   exact J.ends (res_tmp rfl rfl) Takes.nil ⟨rfl, rfl⟩
  ·skip
   refine Sq.quiet (i := 3) rfl (Want.none rfl) rfl (ltN rfl) (QP.move rfl rfl).read ?_
   refine Sq.quiet (i := 4) rfl (Want.yes rfl rfl rfl rfl) rfl (ltN rfl) (QP.move rfl rfl).read ?_
   refine Sq.quiet (i := 5) rfl (Want.yes rfl rfl rfl rfl) rfl (ltN rfl) (QP.gtr rfl rfl rfl).read ?_
   refine J.caseD (fun c42 => ?_) (fun c42 => ?_)
   ·skip
    refine Sq.quiet (i := 6) rfl (Want.none rfl) rfl (ltN rfl) (QP.pick_f rfl rfl rfl).read ?_
    refine Sq.nil ?_
    refine hk13 _ _ ?_
    refine Run.cond_t rfl ?_
    refine Run.seq fun k15 hk15 => ?_
    refine Run.region ?_
    show Sq _ _ _ [0, 1] _ _ _ _
    refine Sq.eff (i := 0) rfl (Want.none rfl) rfl (ltN rfl) (EF.call rfl ce9 rfl Takes.nil (fun F' hle hr => live_spec F')) ?_
    rintro _ _ ⟨_, ⟨rfl, rfl⟩, rfl⟩
    refine J.app ?_
    refine Sq.quiet (i := 1) rfl (Want.none rfl) rfl (ltN rfl) (QP.assign rfl rfl).read ?_
    refine Sq.nil ?_
    refine hk15 _ _ ?_
    refine Run.ret ?_
    exact J.ends (res_tmp rfl rfl) Takes.nil ⟨rfl, rfl⟩
   ·skip
    refine Sq.quiet (i := 6) rfl (Want.none rfl) rfl (ltN rfl) (QP.pick_f rfl rfl rfl).read ?_
    refine Sq.nil ?_
    refine hk13 _ _ ?_
    refine Run.cond_f rfl ?_
    refine Run.skip ?_
    refine hk12 _ _ ?_
    refine Run.seq fun k16 hk16 => ?_
    refine Run.region ?_
    show Sq _ _ _ [0, 1] _ _ _ _
    refine Sq.eff (i := 0) rfl (Want.none rfl) rfl (ltN rfl) (EF.call rfl ce10 rfl Takes.nil (fun F' hle hr => newA F')) ?_
    rintro _ _ ⟨_, ⟨tb, rfl, rfl⟩, rfl⟩
    refine J.app ?_
    refine Sq.quiet (i := 1) rfl (Want.none rfl) rfl (ltN rfl) (QP.assign rfl rfl).read ?_
    refine Sq.nil ?_
    refine hk16 _ _ ?_
    refine Run.seq fun k17 hk17 => ?_
    refine Run.region ?_
    show Sq _ _ _ [0, 1, 2] _ _ _ _
    refine Sq.quiet (i := 0) rfl (Want.none rfl) rfl (ltN rfl) (QP.build (l := Ref04Queue.enc Ref04Queue.zero) rfl st52 rfl (by exact trivial) rfl).read ?_
    refine Sq.eff (i := 1) rfl (Want.none rfl) rfl (ltN rfl) (EF.boxA rfl rfl) ?_
    rintro _ _ ⟨b47, rfl, rfl⟩
    refine Sq.quiet (i := 2) rfl (Want.none rfl) rfl (ltN rfl) (QP.assign rfl rfl).read ?_
    refine Sq.nil ?_
    refine hk17 _ _ ?_
    refine Run.seq fun k18 hk18 => ?_
    refine Run.seq fun k19 hk19 => ?_
    refine Run.region ?_
    show Sq _ _ _ [0, 1] _ _ _ _
    refine Sq.quiet (i := 0) rfl (Want.none rfl) rfl (ltN rfl) (QP.move rfl rfl).read ?_
    refine Sq.quiet (i := 1) rfl (Want.none rfl) rfl (ltN rfl) (QP.ptr_eq_nil rfl rfl rfl Try.underlying23).read ?_
    refine Sq.nil ?_
    refine hk19 _ _ ?_
    refine Run.cond_f rfl ?_
    refine Run.skip ?_
    refine hk18 _ _ ?_
    refine Run.seq fun k20 hk20 => ?_
    refine Run.seq fun k21 hk21 => ?_
    refine Run.region ?_
    show Sq _ _ _ [0] _ _ _ _
    refine J.addSl 40 2 Due.enc ?_
    refine Sq.quiet (i := 0) rfl (Want.none rfl) rfl (ltN rfl) (QP.assign rfl rfl).read ?_
    refine Sq.nil ?_
    refine hk21 _ _ ?_
    refine Run.block ?_
    refine Run.loop4 (fun (i : Nat) (L : List Due) (ra : Option Addr) (rc : Nat) => i ≤ xs.length ∧ L.length ≤ i) (fun i L ra rc => .cons 0 (.slice a xs.length c) (.cons 5 (fp tb) (.cons 6 (fp b47) (.cons 7 (.int .i64 i) (.nil))))) (fun i L ra rc => [QA tb L, blk b47 (Ref04Queue.enc ⟨⟨ra, L.length, rc⟩⟩) 52, slA 40 2 Due.enc (.slice ra L.length rc) L]) (fun i L ra rc => xs.length - i) (0) ([]) (none) (0) (⟨Nat.zero_le _, Nat.le_refl _⟩) ?_ ?_
    ·exact fun _ j => J.envJ (J.keep (.cons (by repeat constructor) (.cons (by repeat constructor) (.cons (by repeat constructor) Takes.nil))) j) ⟨rfl, rfl, rfl, rfl, trivial⟩
    rintro i L ra rc ⟨hile, hLl⟩ kl22 hl22
    refine Run.seq fun k23 hk23 => ?_
    refine Run.seq fun k24 hk24 => ?_
    refine Run.region ?_
    show Sq _ _ _ [0, 1, 2, 3] _ _ _ _
    refine Sq.quiet (i := 0) rfl (Want.none rfl) rfl (ltN rfl) (QP.move rfl rfl).read ?_
    refine Sq.quiet (i := 1) rfl (Want.none rfl) rfl (ltN rfl) (QP.move rfl rfl).read ?_
    refine Sq.quiet (i := 2) rfl (Want.none rfl) rfl (ltN rfl) (QP.len rfl rfl rfl Try.underlying32).read ?_
    refine Sq.quiet (i := 3) rfl (Want.none rfl) rfl (ltN rfl) (QP.lss rfl rfl rfl).read ?_
    refine J.caseD (fun c53 => ?_) (fun c53 => ?_)
    ·skip
     refine Sq.nil ?_
     refine hk24 _ _ ?_
     refine Run.cond_t rfl ?_
     refine Run.skip ?_
     refine hk23 _ _ ?_
     refine Run.seq fun k25 hk25 => ?_
     refine Run.block ?_
     refine Run.cut3 (fun (L2 : List Due) (ra2 : Option Addr) (rc2 : Nat) => L2.length ≤ i + 1) (fun L2 ra2 rc2 => .cons 0 (.slice a xs.length c) (.cons 5 (fp tb) (.cons 6 (fp b47) (.cons 7 (.int .i64 i) (.nil))))) (fun L2 ra2 rc2 => [QA tb L2, blk b47 (Ref04Queue.enc ⟨⟨ra2, L2.length, rc2⟩⟩) 52, slA 40 2 Due.enc (.slice ra2 L2.length rc2) L2]) ?_ ?_
     ·skip
      rintro L2 ra2 rc2 hl2
      obtain ⟨x, hj⟩ : ∃ x, xs[i]? = some x := ⟨_, List.getElem?_eq_getElem (by omega)⟩
      obtain ⟨b1, o1, hax, hs2⟩ := ha.get (by omega)
      have hxm := List.mem_of_getElem? hj
      obtain ⟨hxk, -, hxt⟩ := hw x hxm
      subst hax
      have hxs : x.name.size ≤ maxLen := (hw x hxm).2.1
      refine Run.seq fun k27 hk27 => ?_
      refine Run.region ?_
      show Sq _ _ _ [0, 1, 2, 3, 4, 5, 6, 7] _ _ _ _
      refine J.slCase (v := .slice ra2 L2.length rc2) (xs := L2) (by repeat constructor) (fun a4 c4 hv4 hh2 => ?_)
      cases hv4
      refine J.qa (b := tb) (L := L2) (by repeat constructor) (fun hG2 => ?_)
      have hpos : L2.head?.isSome = true ↔ 0 < L2.length := by cases L2 <;> simp
      refine Sq.quiet (i := 0) rfl (Want.none rfl) rfl (ltN rfl) (QP.move rfl rfl).read ?_
      refine Sq.eff (i := 1) rfl (Want.none rfl) rfl (ltN rfl) (EF.call rfl ce25 rfl (.cons (by repeat constructor) Takes.nil) (fun F' hle hr => nextA F' (L := L2))) ?_
      rintro _ _ ⟨_, ⟨rfl, rfl⟩, rfl⟩
      refine J.app ?_
      refine Sq.quiet (i := 2) rfl (Want.none rfl) rfl (ltN rfl) (QP.move rfl rfl).read ?_
      refine Sq.quiet (i := 3) rfl (Want.none rfl) rfl (ltN rfl) (QP.extract rfl rfl rfl).read ?_
      refine Sq.quiet (i := 4) rfl (Want.none rfl) rfl (ltN rfl) (QP.extract rfl rfl rfl).read ?_
      refine J.caseB (fun c167 => ?_) (fun c167 => ?_)
      ·skip
       refine Sq.eff (i := 5) rfl (Want.none rfl) rfl (ltN rfl) (EF.allocA (l := Due.enc Due.zero) rfl zero40) ?_
       rintro _ _ ⟨b14, rfl, rfl⟩
       refine Sq.act (i := 6) rfl (Want.none rfl) rfl (EF.storeA rfl rfl rfl z40 (SetL.all (Due.enc_len _) (Due.enc_len _)) (Due.enc_cell _)) ?_
       rintro _ _ rfl
       refine Sq.quiet (i := 7) rfl (Want.none rfl) rfl (ltN rfl) (QP.assign rfl rfl).read ?_
       refine Sq.nil ?_
       refine hk27 _ _ ?_
       refine Run.seq fun k28 hk28 => ?_
       refine Run.region ?_
       show Sq _ _ _ [0, 1, 2, 3, 4, 5, 6, 7, 8, 9, 10, 11] _ _ _ _
       refine Sq.quiet (i := 0) rfl (Want.none rfl) rfl (ltN rfl) (QP.move rfl rfl).read ?_
       refine Sq.quiet (i := 1) rfl (Want.none rfl) rfl (ltN rfl) (QP.move rfl rfl).read ?_
       refine Sq.quiet (i := 2) rfl (Want.none rfl) rfl (ltN rfl) (QP.move rfl rfl).read ?_
       refine Sq.quiet (i := 3) rfl (Want.none rfl) rfl (ltN rfl) (QP.indexAddr rfl rfl rfl Try.underlying32 z35 (by first | omega | (simp <;> omega)) (by first | omega | (simp <;> omega))).read ?_
       refine Sq.quiet (i := 4) rfl (Want.none rfl) rfl (ltN rfl) (QP.fieldAddr rfl rfl f35_1).read ?_
       refine Sq.quiet (i := 5) rfl (Want.none rfl) rfl (ltN rfl) (QR.loadSlF1 rfl rfl g9 Law04Act.enc_len (hs2 _) hj (Law04Act.sub_name _)) ?_
       refine Sq.eff (i := 6) rfl (Want.none rfl) rfl (ltN rfl) (EF.call rfl ce15 rfl (.cons (by repeat constructor) Takes.nil) (fun F' hle hr => atA F' (L := L2) (⟨x.name, hxs⟩ : Str))) ?_
       rintro _ _ ⟨_, ⟨rfl, rfl⟩, rfl⟩
       refine J.app ?_
       refine Sq.quiet (i := 7) rfl (Want.none rfl) rfl (ltN rfl) (QP.move rfl rfl).read ?_
       refine Sq.quiet (i := 8) rfl (Want.none rfl) rfl (ltN rfl) (QP.extract rfl rfl rfl).read ?_
       refine Sq.quiet (i := 9) rfl (Want.none rfl) rfl (ltN rfl) (QP.extract rfl rfl rfl).read ?_
       refine J.caseB (fun c177 => ?_) (fun c177 => ?_)
       ·skip
        refine Sq.quiet (i := 10) rfl (Want.none rfl) rfl (ltN rfl) (QP.assign rfl rfl).read ?_
        refine Sq.quiet (i := 11) rfl (Want.none rfl) rfl (ltN rfl) (QP.assign rfl rfl).read ?_
        refine Sq.nil ?_
        refine hk28 _ _ ?_
        refine Run.seq fun k29 hk29 => ?_
        refine Run.region ?_
        show Sq _ _ _ [0, 1, 2, 3, 4, 5, 6, 7] _ _ _ _
        refine Sq.quiet (i := 0) rfl (Want.none rfl) rfl (ltN rfl) (QP.move rfl rfl).read ?_
        refine Sq.quiet (i := 1) rfl (Want.none rfl) rfl (ltN rfl) (QP.move rfl rfl).read ?_
        refine Sq.quiet (i := 2) rfl (Want.none rfl) rfl (ltN rfl) (QP.move rfl rfl).read ?_
        refine Sq.quiet (i := 3) rfl (Want.none rfl) rfl (ltN rfl) (QP.indexAddr rfl rfl rfl Try.underlying32 z35 (by first | omega | (simp <;> omega)) (by first | omega | (simp <;> omega))).read ?_
        refine Sq.quiet (i := 4) rfl (Want.none rfl) rfl (ltN rfl) (QP.fieldAddr rfl rfl f35_1).read ?_
        refine Sq.quiet (i := 5) rfl (Want.none rfl) rfl (ltN rfl) (QR.loadSlF1 rfl rfl g9 Law04Act.enc_len (hs2 _) hj (Law04Act.sub_name _)) ?_
        refine Sq.eff (i := 6) rfl (Want.none rfl) rfl (ltN rfl) (EF.call rfl ce26 rfl (.cons (by repeat constructor) (.cons (by repeat constructor) Takes.nil)) (fun F' hle hr => rfind_spec F' (by omega) x.name)) ?_
        rintro _ _ ⟨_, ⟨rfl, n184, rfl, hf184⟩, rfl⟩
        refine J.app ?_
        refine Sq.quiet (i := 7) rfl (Want.none rfl) rfl (ltN rfl) (QP.assign rfl rfl).read ?_
        refine Sq.nil ?_
        refine hk29 _ _ ?_
        refine Run.seq fun k30 hk30 => ?_
        refine Run.regionD (M := [0, 1, 0, 4, 12, 28, 63, 127, 255, 511, 1023, 511, 2559, 6655, 14847, 31231, 65535, 131071, 262143, 524287, 524287, 1572863, 3670015, 7864319, 16252927, 33030143, 67108863, 134217727, 268435455, 536870911, 1073741823, 2147483647, 2147483647, 6442450943, 15032385535, 32212254719, 66571993087, 135291469823, 274877906943, 549755813887, 1099511627775, 2199023255551, 4398046511103, 4398046511103, 13194139533311, 35184372088831, 70368744177663, 140737488355327, 281474976710655, 562949953421311, 1125899906842623, 1125899906842623, 3377699720527871, 7881299347898367, 16888498602639359, 1125899906842623, 70931694131085311, 142989288169013247, 287104476244869119, 576460752303423487, 1152921504606846975, 2305843009213693951]) (q := 4611686018427386813) (r := 306244948615774240) (by kernel_rfl) ?_
        have hthr : (atD L2 x.name).isSome = true ↔ 0 ≤ n184 := by
          rw [there_iff]
          rcases hf184 with ⟨h1, h2⟩ | ⟨k, z, h1, h2, h3⟩
          · rw [h2]; constructor
            · intro h; cases h
            · intro h; omega
          · constructor
            · intro _; omega
            · intro _; rw [← h3]; exact has_of (List.mem_of_getElem? h2)
        obtain ⟨k, z, rfl, hk, hz⟩ : ∃ (k : Nat) (z : Due), n184 = (k : Int) ∧ L2[k]? = some z ∧ z.name = x.name := by
          rcases hf184 with ⟨h1, _⟩ | h
          · have := hthr.1 c177; omega
          · exact h
        have hkl : k < L2.length := (List.getElem?_eq_some_iff.1 hk).1
        have hp2 := hpos.1 c167
        obtain ⟨y, hy⟩ : ∃ y, L2[Int.toNat 0]? = some y := ⟨_, List.getElem?_eq_getElem (by show 0 < L2.length; omega)⟩
        obtain ⟨b9, o9, hr9⟩ := hh2.get (by omega)
        subst hr9
        refine Dw.pure (i := 0) rfl (by kernel_rfl) (Want.none rfl) rfl (ltN rfl) (QP.move rfl rfl) ?_
        refine Dw.pure (i := 2) rfl (by kernel_rfl) (Want.none rfl) rfl (ltN rfl) (QP.move rfl rfl) ?_
        refine Dw.pure (i := 3) rfl (by kernel_rfl) (Want.none rfl) rfl (ltN rfl) (QP.nilCheck rfl rfl) ?_
        refine Dw.pure (i := 4) rfl (by kernel_rfl) (Want.none rfl) rfl (ltN rfl) (QP.fieldAddr rfl rfl f52_0) ?_
        refine Dw.read (i := 5) rfl (by kernel_rfl) (Want.none rfl) rfl (ltN rfl) (QR.load1 (v := .slice _ L2.length _) rfl rfl g44 (Ref04Queue.sub_l _)) ?_
        refine Dw.eff (i := 1) (by kernel_rfl) (by kernel_rfl) ?_
        refine One.mk (o := _) (l := [5]) rfl (by kernel_rfl) (Want.none rfl) rfl (ltN rfl) (EF.call rfl ce17 rfl (.cons (by repeat constructor) Takes.nil) (fun F' hle hr => listA F' (L := L2))) (by kernel_rfl) ?_
        rintro v186 _ ⟨_, rfl, rfl⟩
        refine ⟨?_, ?_⟩
        ·rw [List.forall_mem_cons]
         refine ⟨?_, fun _ h => (by cases h)⟩
         ·refine Look.app ?_
          exact Look.mk rfl rfl rfl (QR.load1 (v := .slice _ L2.length _) rfl rfl g44 (Ref04Queue.sub_l _))
        refine ?_
        refine J.app ?_
        refine Dw.slCase (v := v186) (xs := L2) (by repeat constructor) (fun a186 c186 hv186 hh186 => ?_)
        subst hv186
        refine Dw.eff (i := 6) (by kernel_rfl) (by kernel_rfl) ?_
        refine One.mk (o := _) (l := []) rfl (by kernel_rfl) (Want.none rfl) rfl (ltN rfl) (EF.call rfl ce21 rfl (.cons (by repeat constructor) (.cons (by repeat constructor) Takes.nil)) (fun F' hle hr => sameD F' hh186 hh2 (by omega) (by omega))) (by kernel_rfl) ?_
        rintro _ _ ⟨_, ⟨rfl, rfl⟩, rfl⟩
        refine ⟨fun _ h => (by cases h), ?_⟩
        refine J.app ?_
        refine J.boolT (decide_eq_true rfl) ?_
        refine Dw.pure (i := 7) rfl (by kernel_rfl) (Want.none rfl) rfl (ltN rfl) (QP.not rfl rfl) ?_
        refine Dw.pure (i := 8) rfl (by kernel_rfl) (Want.none rfl) rfl (ltN rfl) (QP.move rfl rfl) ?_
        refine Dw.pure (i := 9) rfl (by kernel_rfl) (Want.yes rfl rfl rfl rfl) rfl (ltN rfl) (QP.move rfl rfl) ?_
        refine Dw.pure (i := 11) rfl (by kernel_rfl) (Want.yes rfl rfl rfl rfl) rfl (ltN rfl) (QP.move rfl rfl) ?_
        refine Dw.pure (i := 12) rfl (by kernel_rfl) (Want.yes rfl rfl rfl rfl) rfl (ltN rfl) (QP.nilCheck rfl rfl) ?_
        refine Dw.pure (i := 13) rfl (by kernel_rfl) (Want.yes rfl rfl rfl rfl) rfl (ltN rfl) (QP.fieldAddr rfl rfl f52_0) ?_
        refine Dw.read (i := 14) rfl (by kernel_rfl) (Want.yes rfl rfl rfl rfl) rfl (ltN rfl) (QR.load1 (v := .slice _ L2.length _) rfl rfl g44 (Ref04Queue.sub_l _)) ?_
        refine Dw.pure (i := 15) rfl (by kernel_rfl) (Want.yes rfl rfl rfl rfl) rfl (ltN rfl) (QP.len rfl rfl rfl Try.underlying44) ?_
        refine Dw.eff (i := 10) (by kernel_rfl) (by kernel_rfl) ?_
        refine One.mk (o := _) (l := [14]) rfl (by kernel_rfl) (Want.yes rfl rfl rfl rfl) rfl (ltN rfl) (EF.call rfl ce13 rfl (.cons (by repeat constructor) Takes.nil) (fun F' hle hr => lenA F' (L := L2))) (by kernel_rfl) ?_
        rintro _ _ ⟨_, ⟨rfl, rfl⟩, rfl⟩
        refine ⟨?_, ?_⟩
        ·rw [List.forall_mem_cons]
         refine ⟨?_, fun _ h => (by cases h)⟩
         ·refine Look.app ?_
          exact Look.mk rfl rfl rfl (QR.load1 (v := .slice _ L2.length _) rfl rfl g44 (Ref04Queue.sub_l _))
        refine ?_
        refine J.app ?_
        refine Dw.pure (i := 16) rfl (by kernel_rfl) (Want.yes rfl rfl rfl rfl) rfl (ltN rfl) (QP.neq rfl rfl rfl) ?_
        refine J.decF (fun h9 => h9 rfl) ?_
        refine Dw.pure (i := 17) rfl (by kernel_rfl) (Want.none rfl) rfl (ltN rfl) (QP.pick_f rfl rfl rfl) ?_
        refine Dw.pure (i := 18) rfl (by kernel_rfl) (Want.none rfl) rfl (ltN rfl) (QP.move rfl rfl) ?_
        refine Dw.pure (i := 19) rfl (by kernel_rfl) (Want.yes rfl rfl rfl rfl) rfl (ltN rfl) (QP.move rfl rfl) ?_
        refine Dw.pure (i := 20) rfl (by kernel_rfl) (Want.yes rfl rfl rfl rfl) rfl (ltN rfl) (QP.move rfl rfl) ?_
        refine Dw.pure (i := 21) rfl (by kernel_rfl) (Want.yes rfl rfl rfl rfl) rfl (ltN rfl) (QP.nilCheck rfl rfl) ?_
        refine Dw.pure (i := 22) rfl (by kernel_rfl) (Want.yes rfl rfl rfl rfl) rfl (ltN rfl) (QP.fieldAddr rfl rfl f52_0) ?_
        refine Dw.read (i := 23) rfl (by kernel_rfl) (Want.yes rfl rfl rfl rfl) rfl (ltN rfl) (QR.load1 (v := .slice _ L2.length _) rfl rfl g44 (Ref04Queue.sub_l _)) ?_
        refine Dw.pure (i := 24) rfl (by kernel_rfl) (Want.yes rfl rfl rfl rfl) rfl (ltN rfl) (QP.len rfl rfl rfl Try.underlying44) ?_
        refine Dw.pure (i := 25) rfl (by kernel_rfl) (Want.yes rfl rfl rfl rfl) rfl (ltN rfl) (QP.gtr rfl rfl rfl) ?_
        refine Dw.pure (i := 26) rfl (by kernel_rfl) (Want.yes rfl rfl rfl rfl) rfl (ltN rfl) (QP.neqB rfl rfl rfl Try.underlying4) ?_
        refine J.boolF (by rw [decide_eq_true (show (L2.length : Int) > 0 by omega)]; rfl) ?_
        refine Dw.pure (i := 27) rfl (by kernel_rfl) (Want.none rfl) rfl (ltN rfl) (QP.pick_f rfl rfl rfl) ?_
        refine Dw.pure (i := 28) rfl (by kernel_rfl) (Want.none rfl) rfl (ltN rfl) (QP.move rfl rfl) ?_
        refine Dw.pure (i := 29) rfl (by kernel_rfl) (Want.yes rfl rfl rfl rfl) rfl (ltN rfl) (QP.move rfl rfl) ?_
        refine Dw.pure (i := 30) rfl (by kernel_rfl) (Want.yes rfl rfl rfl rfl) rfl (ltN rfl) (QP.move rfl rfl) ?_
        refine Dw.read (i := 31) rfl (by kernel_rfl) (Want.yes rfl rfl rfl rfl) rfl (ltN rfl) (QR.load rfl rfl g40 (Due.enc_sub _)) ?_
        refine Dw.pure (i := 32) rfl (by kernel_rfl) (Want.yes rfl rfl rfl rfl) rfl (ltN rfl) (QP.move rfl rfl) ?_
        refine Dw.pure (i := 33) rfl (by kernel_rfl) (Want.yes rfl rfl rfl rfl) rfl (ltN rfl) (QP.nilCheck rfl rfl) ?_
        refine Dw.pure (i := 34) rfl (by kernel_rfl) (Want.yes rfl rfl rfl rfl) rfl (ltN rfl) (QP.fieldAddr rfl rfl f52_0) ?_
        refine Dw.read (i := 35) rfl (by kernel_rfl) (Want.yes rfl rfl rfl rfl) rfl (ltN rfl) (QR.load1 (v := .slice _ L2.length _) rfl rfl g44 (Ref04Queue.sub_l _)) ?_
        refine Dw.pure (i := 36) rfl (by kernel_rfl) (Want.yes rfl rfl rfl rfl) rfl (ltN rfl) (QP.indexAddr rfl rfl rfl Try.underlying44 z40 (by first | omega | (simp <;> omega)) (by first | omega | (simp <;> omega))) ?_
        refine Dw.read (i := 37) rfl (by kernel_rfl) (Want.yes rfl rfl rfl rfl) rfl (ltN rfl) (QR.loadSl rfl rfl g40 Due.enc_len (SlAt.own Due.enc_len (by repeat constructor)) hy) ?_
        refine Dw.pure (i := 38) rfl (by kernel_rfl) (Want.yes rfl rfl rfl rfl) rfl (ltN rfl) (QP.neq_agg eq40 rfl rfl rfl) ?_
        refine J.decF (fun h9 => h9 (by rw [List.head?_eq_getElem?, show L2[0]? = some y from hy]; rfl)) ?_
        refine Dw.pure (i := 39) rfl (by kernel_rfl) (Want.yes rfl rfl rfl rfl) rfl (ltN rfl) (QP.pick_t rfl rfl rfl) ?_
        refine Dw.pure (i := 40) rfl (by kernel_rfl) (Want.none rfl) rfl (ltN rfl) (QP.pick_f rfl rfl rfl) ?_
        refine Dw.pure (i := 41) rfl (by kernel_rfl) (Want.none rfl) rfl (ltN rfl) (QP.move rfl rfl) ?_
        refine Dw.pure (i := 42) rfl (by kernel_rfl) (Want.yes rfl rfl rfl rfl) rfl (ltN rfl) (QP.move rfl rfl) ?_
        refine Dw.pure (i := 43) rfl (by kernel_rfl) (Want.yes rfl rfl rfl rfl) rfl (ltN rfl) (QP.move rfl rfl) ?_
        refine Dw.pure (i := 44) rfl (by kernel_rfl) (Want.yes rfl rfl rfl rfl) rfl (ltN rfl) (QP.geq rfl rfl rfl) ?_
        refine Dw.pure (i := 45) rfl (by kernel_rfl) (Want.yes rfl rfl rfl rfl) rfl (ltN rfl) (QP.neqB rfl rfl rfl Try.underlying4) ?_
        refine J.boolF (by rw [decide_eq_true (show (k : Int) ≥ 0 by omega)]; rfl) ?_
        refine Dw.pure (i := 46) rfl (by kernel_rfl) (Want.none rfl) rfl (ltN rfl) (QP.pick_f rfl rfl rfl) ?_
        refine Dw.pure (i := 47) rfl (by kernel_rfl) (Want.none rfl) rfl (ltN rfl) (QP.move rfl rfl) ?_
        refine Dw.pure (i := 48) rfl (by kernel_rfl) (Want.yes rfl rfl rfl rfl) rfl (ltN rfl) (QP.move rfl rfl) ?_
        refine Dw.pure (i := 49) rfl (by kernel_rfl) (Want.yes rfl rfl rfl rfl) rfl (ltN rfl) (QP.move rfl rfl) ?_
        refine Dw.pure (i := 50) rfl (by kernel_rfl) (Want.yes rfl rfl rfl rfl) rfl (ltN rfl) (QP.move rfl rfl) ?_
        refine Dw.pure (i := 51) rfl (by kernel_rfl) (Want.yes rfl rfl rfl rfl) rfl (ltN rfl) (QP.move rfl rfl) ?_
        refine Dw.pure (i := 52) rfl (by kernel_rfl) (Want.yes rfl rfl rfl rfl) rfl (ltN rfl) (QP.nilCheck rfl rfl) ?_
        refine Dw.pure (i := 53) rfl (by kernel_rfl) (Want.yes rfl rfl rfl rfl) rfl (ltN rfl) (QP.fieldAddr rfl rfl f52_0) ?_
        refine Dw.read (i := 54) rfl (by kernel_rfl) (Want.yes rfl rfl rfl rfl) rfl (ltN rfl) (QR.load1 (v := .slice _ L2.length _) rfl rfl g44 (Ref04Queue.sub_l _)) ?_
        refine Dw.pure (i := 55) rfl (by kernel_rfl) (Want.yes rfl rfl rfl rfl) rfl (ltN rfl) (QP.move rfl rfl) ?_
        refine Dw.pure (i := 56) rfl (by kernel_rfl) (Want.yes rfl rfl rfl rfl) rfl (ltN rfl) (QP.indexAddr rfl rfl rfl Try.underlying44 z40 (by first | omega | (simp <;> omega)) (by first | omega | (simp <;> omega))) ?_
        refine Dw.pure (i := 57) rfl (by kernel_rfl) (Want.yes rfl rfl rfl rfl) rfl (ltN rfl) (QP.fieldAddr rfl rfl f40_1) ?_
        refine Dw.read (i := 58) rfl (by kernel_rfl) (Want.yes rfl rfl rfl rfl) rfl (ltN rfl) (QR.loadSlF1 rfl rfl g3 Due.enc_len (SlAt.own Due.enc_len (by repeat constructor)) hk (Due.sub_at_ _)) ?_
        refine Dw.pure (i := 59) rfl (by kernel_rfl) (Want.yes rfl rfl rfl rfl) rfl (ltN rfl) (QP.neq rfl rfl rfl) ?_
        refine J.decF (fun h9 => h9 (by show (atD L2 x.name).getD 0 = z.at_; rw [← hz, at_some hG2.nodup (List.mem_of_getElem? hk)]; rfl)) ?_
        refine Dw.pure (i := 60) rfl (by kernel_rfl) (Want.yes rfl rfl rfl rfl) rfl (ltN rfl) (QP.pick_t rfl rfl rfl) ?_
        refine Dw.pure (i := 61) rfl (by kernel_rfl) (Want.none rfl) rfl (ltN rfl) (QP.pick_f rfl rfl rfl) ?_
        refine Dw.nil (by kernel_rfl) ?_
        refine hk30 _ _ ?_
        refine Run.cond_f rfl ?_
        refine Run.skip ?_
        refine hk25 _ _ ?_
        refine Run.region ?_
        show Sq _ _ _ [0, 1, 2] _ _ _ _
        refine Sq.quiet (i := 0) rfl (Want.none rfl) rfl (ltN rfl) (QP.move rfl rfl).read ?_
        refine Sq.quiet (i := 1) rfl (Want.none rfl) rfl (ltN rfl) (QP.add64 rfl rfl rfl (by first | omega | (simp <;> omega)) (by first | omega | (simp <;> omega))).read ?_
        refine Sq.quiet (i := 2) rfl (Want.none rfl) rfl (ltN rfl) (QP.assign rfl rfl).read ?_
        refine Sq.nil ?_
        exact J.envJ (J.keep (.cons (by repeat constructor) (.cons (by repeat constructor) (.cons (by repeat constructor) Takes.nil))) (hl22 (i + 1) (L2) (some ⟨b9, o9, none⟩) (rc2) (⟨by omega, hl2⟩) (by omega))) ⟨rfl, rfl, rfl, rfl, trivial⟩
       ·skip
        refine Sq.quiet (i := 10) rfl (Want.none rfl) rfl (ltN rfl) (QP.assign rfl rfl).read ?_
        refine Sq.quiet (i := 11) rfl (Want.none rfl) rfl (ltN rfl) (QP.assign rfl rfl).read ?_
        refine Sq.nil ?_
        refine hk28 _ _ ?_
        refine Run.seq fun k31 hk31 => ?_
        refine Run.region ?_
        show Sq _ _ _ [0, 1, 2, 3, 4, 5, 6, 7] _ _ _ _
        refine Sq.quiet (i := 0) rfl (Want.none rfl) rfl (ltN rfl) (QP.move rfl rfl).read ?_
        refine Sq.quiet (i := 1) rfl (Want.none rfl) rfl (ltN rfl) (QP.move rfl rfl).read ?_
        refine Sq.quiet (i := 2) rfl (Want.none rfl) rfl (ltN rfl) (QP.move rfl rfl).read ?_
        refine Sq.quiet (i := 3) rfl (Want.none rfl) rfl (ltN rfl) (QP.indexAddr rfl rfl rfl Try.underlying32 z35 (by first | omega | (simp <;> omega)) (by first | omega | (simp <;> omega))).read ?_
        refine Sq.quiet (i := 4) rfl (Want.none rfl) rfl (ltN rfl) (QP.fieldAddr rfl rfl f35_1).read ?_
        refine Sq.quiet (i := 5) rfl (Want.none rfl) rfl (ltN rfl) (QR.loadSlF1 rfl rfl g9 Law04Act.enc_len (hs2 _) hj (Law04Act.sub_name _)) ?_
        refine Sq.eff (i := 6) rfl (Want.none rfl) rfl (ltN rfl) (EF.call rfl ce26 rfl (.cons (by repeat constructor) (.cons (by repeat constructor) Takes.nil)) (fun F' hle hr => rfind_spec F' (by omega) x.name)) ?_
        rintro _ _ ⟨_, ⟨rfl, n184, rfl, hf184⟩, rfl⟩
        refine J.app ?_
        refine Sq.quiet (i := 7) rfl (Want.none rfl) rfl (ltN rfl) (QP.assign rfl rfl).read ?_
        refine Sq.nil ?_
        refine hk31 _ _ ?_
        refine Run.seq fun k32 hk32 => ?_
        refine Run.regionD (M := [0, 1, 0, 4, 12, 28, 63, 127, 255, 511, 1023, 511, 2559, 6655, 14847, 31231, 65535, 131071, 262143, 524287, 524287, 1572863, 3670015, 7864319, 16252927, 33030143, 67108863, 134217727, 268435455, 536870911, 1073741823, 2147483647, 2147483647, 6442450943, 15032385535, 32212254719, 66571993087, 135291469823, 274877906943, 549755813887, 1099511627775, 2199023255551, 4398046511103, 4398046511103, 13194139533311, 35184372088831, 70368744177663, 140737488355327, 281474976710655, 562949953421311, 1125899906842623, 1125899906842623, 3377699720527871, 7881299347898367, 16888498602639359, 1125899906842623, 70931694131085311, 142989288169013247, 287104476244869119, 576460752303423487, 1152921504606846975, 2305843009213693951]) (q := 4611686018427386813) (r := 306244948615774240) (by kernel_rfl) ?_
        have hthr : (atD L2 x.name).isSome = true ↔ 0 ≤ n184 := by
          rw [there_iff]
          rcases hf184 with ⟨h1, h2⟩ | ⟨k, z, h1, h2, h3⟩
          · rw [h2]; constructor
            · intro h; cases h
            · intro h; omega
          · constructor
            · intro _; omega
            · intro _; rw [← h3]; exact has_of (List.mem_of_getElem? h2)
        have hp2 := hpos.1 c167
        obtain ⟨y, hy⟩ : ∃ y, L2[Int.toNat 0]? = some y := ⟨_, List.getElem?_eq_getElem (by show 0 < L2.length; omega)⟩
        obtain ⟨b9, o9, hr9⟩ := hh2.get (by omega)
        subst hr9
        refine Dw.pure (i := 0) rfl (by kernel_rfl) (Want.none rfl) rfl (ltN rfl) (QP.move rfl rfl) ?_
        refine Dw.pure (i := 2) rfl (by kernel_rfl) (Want.none rfl) rfl (ltN rfl) (QP.move rfl rfl) ?_
        refine Dw.pure (i := 3) rfl (by kernel_rfl) (Want.none rfl) rfl (ltN rfl) (QP.nilCheck rfl rfl) ?_
        refine Dw.pure (i := 4) rfl (by kernel_rfl) (Want.none rfl) rfl (ltN rfl) (QP.fieldAddr rfl rfl f52_0) ?_
        refine Dw.read (i := 5) rfl (by kernel_rfl) (Want.none rfl) rfl (ltN rfl) (QR.load1 (v := .slice _ L2.length _) rfl rfl g44 (Ref04Queue.sub_l _)) ?_
        refine Dw.eff (i := 1) (by kernel_rfl) (by kernel_rfl) ?_
        refine One.mk (o := _) (l := [5]) rfl (by kernel_rfl) (Want.none rfl) rfl (ltN rfl) (EF.call rfl ce17 rfl (.cons (by repeat constructor) Takes.nil) (fun F' hle hr => listA F' (L := L2))) (by kernel_rfl) ?_
        rintro v186 _ ⟨_, rfl, rfl⟩
        refine ⟨?_, ?_⟩
        ·rw [List.forall_mem_cons]
         refine ⟨?_, fun _ h => (by cases h)⟩
         ·refine Look.app ?_
          exact Look.mk rfl rfl rfl (QR.load1 (v := .slice _ L2.length _) rfl rfl g44 (Ref04Queue.sub_l _))
        refine ?_
        refine J.app ?_
        refine Dw.slCase (v := v186) (xs := L2) (by repeat constructor) (fun a186 c186 hv186 hh186 => ?_)
        subst hv186
        refine Dw.eff (i := 6) (by kernel_rfl) (by kernel_rfl) ?_
        refine One.mk (o := _) (l := []) rfl (by kernel_rfl) (Want.none rfl) rfl (ltN rfl) (EF.call rfl ce21 rfl (.cons (by repeat constructor) (.cons (by repeat constructor) Takes.nil)) (fun F' hle hr => sameD F' hh186 hh2 (by omega) (by omega))) (by kernel_rfl) ?_
        rintro _ _ ⟨_, ⟨rfl, rfl⟩, rfl⟩
        refine ⟨fun _ h => (by cases h), ?_⟩
        refine J.app ?_
        refine J.boolT (decide_eq_true rfl) ?_
        refine Dw.pure (i := 7) rfl (by kernel_rfl) (Want.none rfl) rfl (ltN rfl) (QP.not rfl rfl) ?_
        refine Dw.pure (i := 8) rfl (by kernel_rfl) (Want.none rfl) rfl (ltN rfl) (QP.move rfl rfl) ?_
        refine Dw.pure (i := 9) rfl (by kernel_rfl) (Want.yes rfl rfl rfl rfl) rfl (ltN rfl) (QP.move rfl rfl) ?_
        refine Dw.pure (i := 11) rfl (by kernel_rfl) (Want.yes rfl rfl rfl rfl) rfl (ltN rfl) (QP.move rfl rfl) ?_
        refine Dw.pure (i := 12) rfl (by kernel_rfl) (Want.yes rfl rfl rfl rfl) rfl (ltN rfl) (QP.nilCheck rfl rfl) ?_
        refine Dw.pure (i := 13) rfl (by kernel_rfl) (Want.yes rfl rfl rfl rfl) rfl (ltN rfl) (QP.fieldAddr rfl rfl f52_0) ?_
        refine Dw.read (i := 14) rfl (by kernel_rfl) (Want.yes rfl rfl rfl rfl) rfl (ltN rfl) (QR.load1 (v := .slice _ L2.length _) rfl rfl g44 (Ref04Queue.sub_l _)) ?_
        refine Dw.pure (i := 15) rfl (by kernel_rfl) (Want.yes rfl rfl rfl rfl) rfl (ltN rfl) (QP.len rfl rfl rfl Try.underlying44) ?_
        refine Dw.eff (i := 10) (by kernel_rfl) (by kernel_rfl) ?_
        refine One.mk (o := _) (l := [14]) rfl (by kernel_rfl) (Want.yes rfl rfl rfl rfl) rfl (ltN rfl) (EF.call rfl ce13 rfl (.cons (by repeat constructor) Takes.nil) (fun F' hle hr => lenA F' (L := L2))) (by kernel_rfl) ?_
        rintro _ _ ⟨_, ⟨rfl, rfl⟩, rfl⟩
        refine ⟨?_, ?_⟩
        ·rw [List.forall_mem_cons]
         refine ⟨?_, fun _ h => (by cases h)⟩
         ·refine Look.app ?_
          exact Look.mk rfl rfl rfl (QR.load1 (v := .slice _ L2.length _) rfl rfl g44 (Ref04Queue.sub_l _))
        refine ?_
        refine J.app ?_
        refine Dw.pure (i := 16) rfl (by kernel_rfl) (Want.yes rfl rfl rfl rfl) rfl (ltN rfl) (QP.neq rfl rfl rfl) ?_
        refine J.decF (fun h9 => h9 rfl) ?_
        refine Dw.pure (i := 17) rfl (by kernel_rfl) (Want.none rfl) rfl (ltN rfl) (QP.pick_f rfl rfl rfl) ?_
        refine Dw.pure (i := 18) rfl (by kernel_rfl) (Want.none rfl) rfl (ltN rfl) (QP.move rfl rfl) ?_
        refine Dw.pure (i := 19) rfl (by kernel_rfl) (Want.yes rfl rfl rfl rfl) rfl (ltN rfl) (QP.move rfl rfl) ?_
        refine Dw.pure (i := 20) rfl (by kernel_rfl) (Want.yes rfl rfl rfl rfl) rfl (ltN rfl) (QP.move rfl rfl) ?_
        refine Dw.pure (i := 21) rfl (by kernel_rfl) (Want.yes rfl rfl rfl rfl) rfl (ltN rfl) (QP.nilCheck rfl rfl) ?_
        refine Dw.pure (i := 22) rfl (by kernel_rfl) (Want.yes rfl rfl rfl rfl) rfl (ltN rfl) (QP.fieldAddr rfl rfl f52_0) ?_
        refine Dw.read (i := 23) rfl (by kernel_rfl) (Want.yes rfl rfl rfl rfl) rfl (ltN rfl) (QR.load1 (v := .slice _ L2.length _) rfl rfl g44 (Ref04Queue.sub_l _)) ?_
        refine Dw.pure (i := 24) rfl (by kernel_rfl) (Want.yes rfl rfl rfl rfl) rfl (ltN rfl) (QP.len rfl rfl rfl Try.underlying44) ?_
        refine Dw.pure (i := 25) rfl (by kernel_rfl) (Want.yes rfl rfl rfl rfl) rfl (ltN rfl) (QP.gtr rfl rfl rfl) ?_
        refine Dw.pure (i := 26) rfl (by kernel_rfl) (Want.yes rfl rfl rfl rfl) rfl (ltN rfl) (QP.neqB rfl rfl rfl Try.underlying4) ?_
        refine J.boolF (by rw [decide_eq_true (show (L2.length : Int) > 0 by omega)]; rfl) ?_
        refine Dw.pure (i := 27) rfl (by kernel_rfl) (Want.none rfl) rfl (ltN rfl) (QP.pick_f rfl rfl rfl) ?_
        refine Dw.pure (i := 28) rfl (by kernel_rfl) (Want.none rfl) rfl (ltN rfl) (QP.move rfl rfl) ?_
        refine Dw.pure (i := 29) rfl (by kernel_rfl) (Want.yes rfl rfl rfl rfl) rfl (ltN rfl) (QP.move rfl rfl) ?_
        refine Dw.pure (i := 30) rfl (by kernel_rfl) (Want.yes rfl rfl rfl rfl) rfl (ltN rfl) (QP.move rfl rfl) ?_
        refine Dw.read (i := 31) rfl (by kernel_rfl) (Want.yes rfl rfl rfl rfl) rfl (ltN rfl) (QR.load rfl rfl g40 (Due.enc_sub _)) ?_
        refine Dw.pure (i := 32) rfl (by kernel_rfl) (Want.yes rfl rfl rfl rfl) rfl (ltN rfl) (QP.move rfl rfl) ?_
        refine Dw.pure (i := 33) rfl (by kernel_rfl) (Want.yes rfl rfl rfl rfl) rfl (ltN rfl) (QP.nilCheck rfl rfl) ?_
        refine Dw.pure (i := 34) rfl (by kernel_rfl) (Want.yes rfl rfl rfl rfl) rfl (ltN rfl) (QP.fieldAddr rfl rfl f52_0) ?_
        refine Dw.read (i := 35) rfl (by kernel_rfl) (Want.yes rfl rfl rfl rfl) rfl (ltN rfl) (QR.load1 (v := .slice _ L2.length _) rfl rfl g44 (Ref04Queue.sub_l _)) ?_
        refine Dw.pure (i := 36) rfl (by kernel_rfl) (Want.yes rfl rfl rfl rfl) rfl (ltN rfl) (QP.indexAddr rfl rfl rfl Try.underlying44 z40 (by first | omega | (simp <;> omega)) (by first | omega | (simp <;> omega))) ?_
        refine Dw.read (i := 37) rfl (by kernel_rfl) (Want.yes rfl rfl rfl rfl) rfl (ltN rfl) (QR.loadSl rfl rfl g40 Due.enc_len (SlAt.own Due.enc_len (by repeat constructor)) hy) ?_
        refine Dw.pure (i := 38) rfl (by kernel_rfl) (Want.yes rfl rfl rfl rfl) rfl (ltN rfl) (QP.neq_agg eq40 rfl rfl rfl) ?_
        refine J.decF (fun h9 => h9 (by rw [List.head?_eq_getElem?, show L2[0]? = some y from hy]; rfl)) ?_
        refine Dw.pure (i := 39) rfl (by kernel_rfl) (Want.yes rfl rfl rfl rfl) rfl (ltN rfl) (QP.pick_t rfl rfl rfl) ?_
        refine Dw.pure (i := 40) rfl (by kernel_rfl) (Want.none rfl) rfl (ltN rfl) (QP.pick_f rfl rfl rfl) ?_
        refine Dw.pure (i := 41) rfl (by kernel_rfl) (Want.none rfl) rfl (ltN rfl) (QP.move rfl rfl) ?_
        refine Dw.pure (i := 42) rfl (by kernel_rfl) (Want.yes rfl rfl rfl rfl) rfl (ltN rfl) (QP.move rfl rfl) ?_
        refine Dw.pure (i := 43) rfl (by kernel_rfl) (Want.yes rfl rfl rfl rfl) rfl (ltN rfl) (QP.move rfl rfl) ?_
        refine Dw.pure (i := 44) rfl (by kernel_rfl) (Want.yes rfl rfl rfl rfl) rfl (ltN rfl) (QP.geq rfl rfl rfl) ?_
        refine Dw.pure (i := 45) rfl (by kernel_rfl) (Want.yes rfl rfl rfl rfl) rfl (ltN rfl) (QP.neqB rfl rfl rfl Try.underlying4) ?_
        refine J.boolF (by rw [decide_eq_false (show ¬ n184 ≥ 0 from fun h => by rw [hthr.2 h] at c177; cases c177)]; rfl) ?_
        refine Dw.pure (i := 46) rfl (by kernel_rfl) (Want.none rfl) rfl (ltN rfl) (QP.pick_f rfl rfl rfl) ?_
        refine Dw.pure (i := 47) rfl (by kernel_rfl) (Want.none rfl) rfl (ltN rfl) (QP.move rfl rfl) ?_
        refine Dw.pure (i := 48) rfl (by kernel_rfl) (Want.yes rfl rfl rfl rfl) rfl (ltN rfl) (QP.move rfl rfl) ?_
        refine Dw.pure (i := 49) rfl (by kernel_rfl) (Want.yes rfl rfl rfl rfl) rfl (ltN rfl) (QP.move rfl rfl) ?_
        refine Dw.skip (i := 50) rfl (by kernel_rfl) (Want.no rfl rfl rfl rfl) rfl (ltN rfl) ?_
        refine Dw.skip (i := 51) rfl (by kernel_rfl) (Want.no rfl rfl rfl rfl) rfl (ltN rfl) ?_
        refine Dw.skip (i := 52) rfl (by kernel_rfl) (Want.no rfl rfl rfl rfl) rfl (ltN rfl) ?_
        refine Dw.skip (i := 53) rfl (by kernel_rfl) (Want.no rfl rfl rfl rfl) rfl (ltN rfl) ?_
        refine Dw.skip (i := 54) rfl (by kernel_rfl) (Want.no rfl rfl rfl rfl) rfl (ltN rfl) ?_
        refine Dw.skip (i := 55) rfl (by kernel_rfl) (Want.no rfl rfl rfl rfl) rfl (ltN rfl) ?_
        refine Dw.skip (i := 56) rfl (by kernel_rfl) (Want.no rfl rfl rfl rfl) rfl (ltN rfl) ?_
        refine Dw.skip (i := 57) rfl (by kernel_rfl) (Want.no rfl rfl rfl rfl) rfl (ltN rfl) ?_
        refine Dw.skip (i := 58) rfl (by kernel_rfl) (Want.no rfl rfl rfl rfl) rfl (ltN rfl) ?_
        refine Dw.skip (i := 59) rfl (by kernel_rfl) (Want.no rfl rfl rfl rfl) rfl (ltN rfl) ?_
        refine Dw.pure (i := 60) rfl (by kernel_rfl) (Want.yes rfl rfl rfl rfl) rfl (ltN rfl) (QP.pick_f rfl rfl rfl) ?_
        refine Dw.pure (i := 61) rfl (by kernel_rfl) (Want.none rfl) rfl (ltN rfl) (QP.pick_f rfl rfl rfl) ?_
        refine Dw.nil (by kernel_rfl) ?_
        refine hk32 _ _ ?_
        refine Run.cond_f rfl ?_
        refine Run.skip ?_
        refine hk25 _ _ ?_
        refine Run.region ?_
        show Sq _ _ _ [0, 1, 2] _ _ _ _
        refine Sq.quiet (i := 0) rfl (Want.none rfl) rfl (ltN rfl) (QP.move rfl rfl).read ?_
        refine Sq.quiet (i := 1) rfl (Want.none rfl) rfl (ltN rfl) (QP.add64 rfl rfl rfl (by first | omega | (simp <;> omega)) (by first | omega | (simp <;> omega))).read ?_
        refine Sq.quiet (i := 2) rfl (Want.none rfl) rfl (ltN rfl) (QP.assign rfl rfl).read ?_
        refine Sq.nil ?_
        exact J.envJ (J.keep (.cons (by repeat constructor) (.cons (by repeat constructor) (.cons (by repeat constructor) Takes.nil))) (hl22 (i + 1) (L2) (some ⟨b9, o9, none⟩) (rc2) (⟨by omega, hl2⟩) (by omega))) ⟨rfl, rfl, rfl, rfl, trivial⟩
      ·skip
       refine Sq.eff (i := 5) rfl (Want.none rfl) rfl (ltN rfl) (EF.allocA (l := Due.enc Due.zero) rfl zero40) ?_
       rintro _ _ ⟨b14, rfl, rfl⟩
       refine Sq.act (i := 6) rfl (Want.none rfl) rfl (EF.storeA rfl rfl rfl z40 (SetL.all (Due.enc_len _) (Due.enc_len _)) (Due.enc_cell _)) ?_
       rintro _ _ rfl
       refine Sq.quiet (i := 7) rfl (Want.none rfl) rfl (ltN rfl) (QP.assign rfl rfl).read ?_
       refine Sq.nil ?_
       refine hk27 _ _ ?_
       refine Run.seq fun k33 hk33 => ?_
       refine Run.region ?_
       show Sq _ _ _ [0, 1, 2, 3, 4, 5, 6, 7, 8, 9, 10, 11] _ _ _ _
       refine Sq.quiet (i := 0) rfl (Want.none rfl) rfl (ltN rfl) (QP.move rfl rfl).read ?_
       refine Sq.quiet (i := 1) rfl (Want.none rfl) rfl (ltN rfl) (QP.move rfl rfl).read ?_
       refine Sq.quiet (i := 2) rfl (Want.none rfl) rfl (ltN rfl) (QP.move rfl rfl).read ?_
       refine Sq.quiet (i := 3) rfl (Want.none rfl) rfl (ltN rfl) (QP.indexAddr rfl rfl rfl Try.underlying32 z35 (by first | omega | (simp <;> omega)) (by first | omega | (simp <;> omega))).read ?_
       refine Sq.quiet (i := 4) rfl (Want.none rfl) rfl (ltN rfl) (QP.fieldAddr rfl rfl f35_1).read ?_
       refine Sq.quiet (i := 5) rfl (Want.none rfl) rfl (ltN rfl) (QR.loadSlF1 rfl rfl g9 Law04Act.enc_len (hs2 _) hj (Law04Act.sub_name _)) ?_
       refine Sq.eff (i := 6) rfl (Want.none rfl) rfl (ltN rfl) (EF.call rfl ce15 rfl (.cons (by repeat constructor) Takes.nil) (fun F' hle hr => atA F' (L := L2) (⟨x.name, hxs⟩ : Str))) ?_
       rintro _ _ ⟨_, ⟨rfl, rfl⟩, rfl⟩
       refine J.app ?_
       refine Sq.quiet (i := 7) rfl (Want.none rfl) rfl (ltN rfl) (QP.move rfl rfl).read ?_
       refine Sq.quiet (i := 8) rfl (Want.none rfl) rfl (ltN rfl) (QP.extract rfl rfl rfl).read ?_
       refine Sq.quiet (i := 9) rfl (Want.none rfl) rfl (ltN rfl) (QP.extract rfl rfl rfl).read ?_
       refine J.caseB (fun c177 => ?_) (fun c177 => ?_)
       ·skip
        refine Sq.quiet (i := 10) rfl (Want.none rfl) rfl (ltN rfl) (QP.assign rfl rfl).read ?_
        refine Sq.quiet (i := 11) rfl (Want.none rfl) rfl (ltN rfl) (QP.assign rfl rfl).read ?_
        refine Sq.nil ?_
        refine hk33 _ _ ?_
        refine Run.seq fun k34 hk34 => ?_
        refine Run.region ?_
        show Sq _ _ _ [0, 1, 2, 3, 4, 5, 6, 7] _ _ _ _
        refine Sq.quiet (i := 0) rfl (Want.none rfl) rfl (ltN rfl) (QP.move rfl rfl).read ?_
        refine Sq.quiet (i := 1) rfl (Want.none rfl) rfl (ltN rfl) (QP.move rfl rfl).read ?_
        refine Sq.quiet (i := 2) rfl (Want.none rfl) rfl (ltN rfl) (QP.move rfl rfl).read ?_
        refine Sq.quiet (i := 3) rfl (Want.none rfl) rfl (ltN rfl) (QP.indexAddr rfl rfl rfl Try.underlying32 z35 (by first | omega | (simp <;> omega)) (by first | omega | (simp <;> omega))).read ?_
        refine Sq.quiet (i := 4) rfl (Want.none rfl) rfl (ltN rfl) (QP.fieldAddr rfl rfl f35_1).read ?_
        refine Sq.quiet (i := 5) rfl (Want.none rfl) rfl (ltN rfl) (QR.loadSlF1 rfl rfl g9 Law04Act.enc_len (hs2 _) hj (Law04Act.sub_name _)) ?_
        refine Sq.eff (i := 6) rfl (Want.none rfl) rfl (ltN rfl) (EF.call rfl ce26 rfl (.cons (by repeat constructor) (.cons (by repeat constructor) Takes.nil)) (fun F' hle hr => rfind_spec F' (by omega) x.name)) ?_
        rintro _ _ ⟨_, ⟨rfl, n184, rfl, hf184⟩, rfl⟩
        refine J.app ?_
        refine Sq.quiet (i := 7) rfl (Want.none rfl) rfl (ltN rfl) (QP.assign rfl rfl).read ?_
        refine Sq.nil ?_
        refine hk34 _ _ ?_
        refine Run.seq fun k35 hk35 => ?_
        refine Run.regionD (M := [0, 1, 0, 4, 12, 28, 63, 127, 255, 511, 1023, 511, 2559, 6655, 14847, 31231, 65535, 131071, 262143, 524287, 524287, 1572863, 3670015, 7864319, 16252927, 33030143, 67108863, 134217727, 268435455, 536870911, 1073741823, 2147483647, 2147483647, 6442450943, 15032385535, 32212254719, 66571993087, 135291469823, 274877906943, 549755813887, 1099511627775, 2199023255551, 4398046511103, 4398046511103, 13194139533311, 35184372088831, 70368744177663, 140737488355327, 281474976710655, 562949953421311, 1125899906842623, 1125899906842623, 3377699720527871, 7881299347898367, 16888498602639359, 1125899906842623, 70931694131085311, 142989288169013247, 287104476244869119, 576460752303423487, 1152921504606846975, 2305843009213693951]) (q := 4611686018427386813) (r := 306244948615774240) (by kernel_rfl) ?_
        have hthr : (atD L2 x.name).isSome = true ↔ 0 ≤ n184 := by
          rw [there_iff]
          rcases hf184 with ⟨h1, h2⟩ | ⟨k, z, h1, h2, h3⟩
          · rw [h2]; constructor
            · intro h; cases h
            · intro h; omega
          · constructor
            · intro _; omega
            · intro _; rw [← h3]; exact has_of (List.mem_of_getElem? h2)
        obtain ⟨k, z, rfl, hk, hz⟩ : ∃ (k : Nat) (z : Due), n184 = (k : Int) ∧ L2[k]? = some z ∧ z.name = x.name := by
          rcases hf184 with ⟨h1, _⟩ | h
          · have := hthr.1 c177; omega
          · exact h
        have hkl : k < L2.length := (List.getElem?_eq_some_iff.1 hk).1
        obtain ⟨b9, o9, hr9⟩ := hh2.get (by omega)
        subst hr9
        refine Dw.pure (i := 0) rfl (by kernel_rfl) (Want.none rfl) rfl (ltN rfl) (QP.move rfl rfl) ?_
        refine Dw.pure (i := 2) rfl (by kernel_rfl) (Want.none rfl) rfl (ltN rfl) (QP.move rfl rfl) ?_
        refine Dw.pure (i := 3) rfl (by kernel_rfl) (Want.none rfl) rfl (ltN rfl) (QP.nilCheck rfl rfl) ?_
        refine Dw.pure (i := 4) rfl (by kernel_rfl) (Want.none rfl) rfl (ltN rfl) (QP.fieldAddr rfl rfl f52_0) ?_
        refine Dw.read (i := 5) rfl (by kernel_rfl) (Want.none rfl) rfl (ltN rfl) (QR.load1 (v := .slice _ L2.length _) rfl rfl g44 (Ref04Queue.sub_l _)) ?_
        refine Dw.eff (i := 1) (by kernel_rfl) (by kernel_rfl) ?_
        refine One.mk (o := _) (l := [5]) rfl (by kernel_rfl) (Want.none rfl) rfl (ltN rfl) (EF.call rfl ce17 rfl (.cons (by repeat constructor) Takes.nil) (fun F' hle hr => listA F' (L := L2))) (by kernel_rfl) ?_
        rintro v186 _ ⟨_, rfl, rfl⟩
        refine ⟨?_, ?_⟩
        ·rw [List.forall_mem_cons]
         refine ⟨?_, fun _ h => (by cases h)⟩
         ·refine Look.app ?_
          exact Look.mk rfl rfl rfl (QR.load1 (v := .slice _ L2.length _) rfl rfl g44 (Ref04Queue.sub_l _))
        refine ?_
        refine J.app ?_
        refine Dw.slCase (v := v186) (xs := L2) (by repeat constructor) (fun a186 c186 hv186 hh186 => ?_)
        subst hv186
        refine Dw.eff (i := 6) (by kernel_rfl) (by kernel_rfl) ?_
        refine One.mk (o := _) (l := []) rfl (by kernel_rfl) (Want.none rfl) rfl (ltN rfl) (EF.call rfl ce21 rfl (.cons (by repeat constructor) (.cons (by repeat constructor) Takes.nil)) (fun F' hle hr => sameD F' hh186 hh2 (by omega) (by omega))) (by kernel_rfl) ?_
        rintro _ _ ⟨_, ⟨rfl, rfl⟩, rfl⟩
        refine ⟨fun _ h => (by cases h), ?_⟩
        refine J.app ?_
        refine J.boolT (decide_eq_true rfl) ?_
        refine Dw.pure (i := 7) rfl (by kernel_rfl) (Want.none rfl) rfl (ltN rfl) (QP.not rfl rfl) ?_
        refine Dw.pure (i := 8) rfl (by kernel_rfl) (Want.none rfl) rfl (ltN rfl) (QP.move rfl rfl) ?_
        refine Dw.pure (i := 9) rfl (by kernel_rfl) (Want.yes rfl rfl rfl rfl) rfl (ltN rfl) (QP.move rfl rfl) ?_
        refine Dw.pure (i := 11) rfl (by kernel_rfl) (Want.yes rfl rfl rfl rfl) rfl (ltN rfl) (QP.move rfl rfl) ?_
        refine Dw.pure (i := 12) rfl (by kernel_rfl) (Want.yes rfl rfl rfl rfl) rfl (ltN rfl) (QP.nilCheck rfl rfl) ?_
        refine Dw.pure (i := 13) rfl (by kernel_rfl) (Want.yes rfl rfl rfl rfl) rfl (ltN rfl) (QP.fieldAddr rfl rfl f52_0) ?_
        refine Dw.read (i := 14) rfl (by kernel_rfl) (Want.yes rfl rfl rfl rfl) rfl (ltN rfl) (QR.load1 (v := .slice _ L2.length _) rfl rfl g44 (Ref04Queue.sub_l _)) ?_
        refine Dw.pure (i := 15) rfl (by kernel_rfl) (Want.yes rfl rfl rfl rfl) rfl (ltN rfl) (QP.len rfl rfl rfl Try.underlying44) ?_
        refine Dw.eff (i := 10) (by kernel_rfl) (by kernel_rfl) ?_
        refine One.mk (o := _) (l := [14]) rfl (by kernel_rfl) (Want.yes rfl rfl rfl rfl) rfl (ltN rfl) (EF.call rfl ce13 rfl (.cons (by repeat constructor) Takes.nil) (fun F' hle hr => lenA F' (L := L2))) (by kernel_rfl) ?_
        rintro _ _ ⟨_, ⟨rfl, rfl⟩, rfl⟩
        refine ⟨?_, ?_⟩
        ·rw [List.forall_mem_cons]
         refine ⟨?_, fun _ h => (by cases h)⟩
         ·refine Look.app ?_
          exact Look.mk rfl rfl rfl (QR.load1 (v := .slice _ L2.length _) rfl rfl g44 (Ref04Queue.sub_l _))
        refine ?_
        refine J.app ?_
        refine Dw.pure (i := 16) rfl (by kernel_rfl) (Want.yes rfl rfl rfl rfl) rfl (ltN rfl) (QP.neq rfl rfl rfl) ?_
        refine J.decF (fun h9 => h9 rfl) ?_
        refine Dw.pure (i := 17) rfl (by kernel_rfl) (Want.none rfl) rfl (ltN rfl) (QP.pick_f rfl rfl rfl) ?_
        refine Dw.pure (i := 18) rfl (by kernel_rfl) (Want.none rfl) rfl (ltN rfl) (QP.move rfl rfl) ?_
        refine Dw.pure (i := 19) rfl (by kernel_rfl) (Want.yes rfl rfl rfl rfl) rfl (ltN rfl) (QP.move rfl rfl) ?_
        refine Dw.pure (i := 20) rfl (by kernel_rfl) (Want.yes rfl rfl rfl rfl) rfl (ltN rfl) (QP.move rfl rfl) ?_
        refine Dw.pure (i := 21) rfl (by kernel_rfl) (Want.yes rfl rfl rfl rfl) rfl (ltN rfl) (QP.nilCheck rfl rfl) ?_
        refine Dw.pure (i := 22) rfl (by kernel_rfl) (Want.yes rfl rfl rfl rfl) rfl (ltN rfl) (QP.fieldAddr rfl rfl f52_0) ?_
        refine Dw.read (i := 23) rfl (by kernel_rfl) (Want.yes rfl rfl rfl rfl) rfl (ltN rfl) (QR.load1 (v := .slice _ L2.length _) rfl rfl g44 (Ref04Queue.sub_l _)) ?_
        refine Dw.pure (i := 24) rfl (by kernel_rfl) (Want.yes rfl rfl rfl rfl) rfl (ltN rfl) (QP.len rfl rfl rfl Try.underlying44) ?_
        refine Dw.pure (i := 25) rfl (by kernel_rfl) (Want.yes rfl rfl rfl rfl) rfl (ltN rfl) (QP.gtr rfl rfl rfl) ?_
        refine Dw.pure (i := 26) rfl (by kernel_rfl) (Want.yes rfl rfl rfl rfl) rfl (ltN rfl) (QP.neqB rfl rfl rfl Try.underlying4) ?_
        refine J.boolF (by rw [decide_eq_false (show ¬ (L2.length : Int) > 0 from fun h => by rw [hpos.2 (by omega)] at c167; cases c167)]; rfl) ?_
        refine Dw.pure (i := 27) rfl (by kernel_rfl) (Want.none rfl) rfl (ltN rfl) (QP.pick_f rfl rfl rfl) ?_
        refine Dw.pure (i := 28) rfl (by kernel_rfl) (Want.none rfl) rfl (ltN rfl) (QP.move rfl rfl) ?_
        refine Dw.pure (i := 29) rfl (by kernel_rfl) (Want.yes rfl rfl rfl rfl) rfl (ltN rfl) (QP.move rfl rfl) ?_
        refine Dw.pure (i := 30) rfl (by kernel_rfl) (Want.yes rfl rfl rfl rfl) rfl (ltN rfl) (QP.move rfl rfl) ?_
        refine Dw.skip (i := 31) rfl (by kernel_rfl) (Want.no rfl rfl rfl rfl) rfl (ltN rfl) ?_
        refine Dw.skip (i := 32) rfl (by kernel_rfl) (Want.no rfl rfl rfl rfl) rfl (ltN rfl) ?_
        refine Dw.skip (i := 33) rfl (by kernel_rfl) (Want.no rfl rfl rfl rfl) rfl (ltN rfl) ?_
        refine Dw.skip (i := 34) rfl (by kernel_rfl) (Want.no rfl rfl rfl rfl) rfl (ltN rfl) ?_
        refine Dw.skip (i := 35) rfl (by kernel_rfl) (Want.no rfl rfl rfl rfl) rfl (ltN rfl) ?_
        refine Dw.skip (i := 36) rfl (by kernel_rfl) (Want.no rfl rfl rfl rfl) rfl (ltN rfl) ?_
        refine Dw.skip (i := 37) rfl (by kernel_rfl) (Want.no rfl rfl rfl rfl) rfl (ltN rfl) ?_
        refine Dw.skip (i := 38) rfl (by kernel_rfl) (Want.no rfl rfl rfl rfl) rfl (ltN rfl) ?_
        refine Dw.pure (i := 39) rfl (by kernel_rfl) (Want.yes rfl rfl rfl rfl) rfl (ltN rfl) (QP.pick_f rfl rfl rfl) ?_
        refine Dw.pure (i := 40) rfl (by kernel_rfl) (Want.none rfl) rfl (ltN rfl) (QP.pick_f rfl rfl rfl) ?_
        refine Dw.pure (i := 41) rfl (by kernel_rfl) (Want.none rfl) rfl (ltN rfl) (QP.move rfl rfl) ?_
        refine Dw.pure (i := 42) rfl (by kernel_rfl) (Want.yes rfl rfl rfl rfl) rfl (ltN rfl) (QP.move rfl rfl) ?_
        refine Dw.pure (i := 43) rfl (by kernel_rfl) (Want.yes rfl rfl rfl rfl) rfl (ltN rfl) (QP.move rfl rfl) ?_
        refine Dw.pure (i := 44) rfl (by kernel_rfl) (Want.yes rfl rfl rfl rfl) rfl (ltN rfl) (QP.geq rfl rfl rfl) ?_
        refine Dw.pure (i := 45) rfl (by kernel_rfl) (Want.yes rfl rfl rfl rfl) rfl (ltN rfl) (QP.neqB rfl rfl rfl Try.underlying4) ?_
        refine J.boolF (by rw [decide_eq_true (show (k : Int) ≥ 0 by omega)]; rfl) ?_
        refine Dw.pure (i := 46) rfl (by kernel_rfl) (Want.none rfl) rfl (ltN rfl) (QP.pick_f rfl rfl rfl) ?_
        refine Dw.pure (i := 47) rfl (by kernel_rfl) (Want.none rfl) rfl (ltN rfl) (QP.move rfl rfl) ?_
        refine Dw.pure (i := 48) rfl (by kernel_rfl) (Want.yes rfl rfl rfl rfl) rfl (ltN rfl) (QP.move rfl rfl) ?_
        refine Dw.pure (i := 49) rfl (by kernel_rfl) (Want.yes rfl rfl rfl rfl) rfl (ltN rfl) (QP.move rfl rfl) ?_
        refine Dw.pure (i := 50) rfl (by kernel_rfl) (Want.yes rfl rfl rfl rfl) rfl (ltN rfl) (QP.move rfl rfl) ?_
        refine Dw.pure (i := 51) rfl (by kernel_rfl) (Want.yes rfl rfl rfl rfl) rfl (ltN rfl) (QP.move rfl rfl) ?_
        refine Dw.pure (i := 52) rfl (by kernel_rfl) (Want.yes rfl rfl rfl rfl) rfl (ltN rfl) (QP.nilCheck rfl rfl) ?_
        refine Dw.pure (i := 53) rfl (by kernel_rfl) (Want.yes rfl rfl rfl rfl) rfl (ltN rfl) (QP.fieldAddr rfl rfl f52_0) ?_
        refine Dw.read (i := 54) rfl (by kernel_rfl) (Want.yes rfl rfl rfl rfl) rfl (ltN rfl) (QR.load1 (v := .slice _ L2.length _) rfl rfl g44 (Ref04Queue.sub_l _)) ?_
        refine Dw.pure (i := 55) rfl (by kernel_rfl) (Want.yes rfl rfl rfl rfl) rfl (ltN rfl) (QP.move rfl rfl) ?_
        refine Dw.pure (i := 56) rfl (by kernel_rfl) (Want.yes rfl rfl rfl rfl) rfl (ltN rfl) (QP.indexAddr rfl rfl rfl Try.underlying44 z40 (by first | omega | (simp <;> omega)) (by first | omega | (simp <;> omega))) ?_
        refine Dw.pure (i := 57) rfl (by kernel_rfl) (Want.yes rfl rfl rfl rfl) rfl (ltN rfl) (QP.fieldAddr rfl rfl f40_1) ?_
        refine Dw.read (i := 58) rfl (by kernel_rfl) (Want.yes rfl rfl rfl rfl) rfl (ltN rfl) (QR.loadSlF1 rfl rfl g3 Due.enc_len (SlAt.own Due.enc_len (by repeat constructor)) hk (Due.sub_at_ _)) ?_
        refine Dw.pure (i := 59) rfl (by kernel_rfl) (Want.yes rfl rfl rfl rfl) rfl (ltN rfl) (QP.neq rfl rfl rfl) ?_
        refine J.decF (fun h9 => h9 (by show (atD L2 x.name).getD 0 = z.at_; rw [← hz, at_some hG2.nodup (List.mem_of_getElem? hk)]; rfl)) ?_
        refine Dw.pure (i := 60) rfl (by kernel_rfl) (Want.yes rfl rfl rfl rfl) rfl (ltN rfl) (QP.pick_t rfl rfl rfl) ?_
        refine Dw.pure (i := 61) rfl (by kernel_rfl) (Want.none rfl) rfl (ltN rfl) (QP.pick_f rfl rfl rfl) ?_
        refine Dw.nil (by kernel_rfl) ?_
        refine hk35 _ _ ?_
        refine Run.cond_f rfl ?_
        refine Run.skip ?_
        refine hk25 _ _ ?_
        refine Run.region ?_
        show Sq _ _ _ [0, 1, 2] _ _ _ _
        refine Sq.quiet (i := 0) rfl (Want.none rfl) rfl (ltN rfl) (QP.move rfl rfl).read ?_
        refine Sq.quiet (i := 1) rfl (Want.none rfl) rfl (ltN rfl) (QP.add64 rfl rfl rfl (by first | omega | (simp <;> omega)) (by first | omega | (simp <;> omega))).read ?_
        refine Sq.quiet (i := 2) rfl (Want.none rfl) rfl (ltN rfl) (QP.assign rfl rfl).read ?_
        refine Sq.nil ?_
        exact J.envJ (J.keep (.cons (by repeat constructor) (.cons (by repeat constructor) (.cons (by repeat constructor) Takes.nil))) (hl22 (i + 1) (L2) (some ⟨b9, o9, none⟩) (rc2) (⟨by omega, hl2⟩) (by omega))) ⟨rfl, rfl, rfl, rfl, trivial⟩
       ·skip
        refine Sq.quiet (i := 10) rfl (Want.none rfl) rfl (ltN rfl) (QP.assign rfl rfl).read ?_
        refine Sq.quiet (i := 11) rfl (Want.none rfl) rfl (ltN rfl) (QP.assign rfl rfl).read ?_
        refine Sq.nil ?_
        refine hk33 _ _ ?_
        refine Run.seq fun k36 hk36 => ?_
        refine Run.region ?_
        show Sq _ _ _ [0, 1, 2, 3, 4, 5, 6, 7] _ _ _ _
        refine Sq.quiet (i := 0) rfl (Want.none rfl) rfl (ltN rfl) (QP.move rfl rfl).read ?_
        refine Sq.quiet (i := 1) rfl (Want.none rfl) rfl (ltN rfl) (QP.move rfl rfl).read ?_
        refine Sq.quiet (i := 2) rfl (Want.none rfl) rfl (ltN rfl) (QP.move rfl rfl).read ?_
        refine Sq.quiet (i := 3) rfl (Want.none rfl) rfl (ltN rfl) (QP.indexAddr rfl rfl rfl Try.underlying32 z35 (by first | omega | (simp <;> omega)) (by first | omega | (simp <;> omega))).read ?_
        refine Sq.quiet (i := 4) rfl (Want.none rfl) rfl (ltN rfl) (QP.fieldAddr rfl rfl f35_1).read ?_
        refine Sq.quiet (i := 5) rfl (Want.none rfl) rfl (ltN rfl) (QR.loadSlF1 rfl rfl g9 Law04Act.enc_len (hs2 _) hj (Law04Act.sub_name _)) ?_
        refine Sq.eff (i := 6) rfl (Want.none rfl) rfl (ltN rfl) (EF.call rfl ce26 rfl (.cons (by repeat constructor) (.cons (by repeat constructor) Takes.nil)) (fun F' hle hr => rfind_spec F' (by omega) x.name)) ?_
        rintro _ _ ⟨_, ⟨rfl, n184, rfl, hf184⟩, rfl⟩
        refine J.app ?_
        refine Sq.quiet (i := 7) rfl (Want.none rfl) rfl (ltN rfl) (QP.assign rfl rfl).read ?_
        refine Sq.nil ?_
        refine hk36 _ _ ?_
        refine Run.seq fun k37 hk37 => ?_
        refine Run.regionD (M := [0, 1, 0, 4, 12, 28, 63, 127, 255, 511, 1023, 511, 2559, 6655, 14847, 31231, 65535, 131071, 262143, 524287, 524287, 1572863, 3670015, 7864319, 16252927, 33030143, 67108863, 134217727, 268435455, 536870911, 1073741823, 2147483647, 2147483647, 6442450943, 15032385535, 32212254719, 66571993087, 135291469823, 274877906943, 549755813887, 1099511627775, 2199023255551, 4398046511103, 4398046511103, 13194139533311, 35184372088831, 70368744177663, 140737488355327, 281474976710655, 562949953421311, 1125899906842623, 1125899906842623, 3377699720527871, 7881299347898367, 16888498602639359, 1125899906842623, 70931694131085311, 142989288169013247, 287104476244869119, 576460752303423487, 1152921504606846975, 2305843009213693951]) (q := 4611686018427386813) (r := 306244948615774240) (by kernel_rfl) ?_
        have hthr : (atD L2 x.name).isSome = true ↔ 0 ≤ n184 := by
          rw [there_iff]
          rcases hf184 with ⟨h1, h2⟩ | ⟨k, z, h1, h2, h3⟩
          · rw [h2]; constructor
            · intro h; cases h
            · intro h; omega
          · constructor
            · intro _; omega
            · intro _; rw [← h3]; exact has_of (List.mem_of_getElem? h2)
        refine Dw.pure (i := 0) rfl (by kernel_rfl) (Want.none rfl) rfl (ltN rfl) (QP.move rfl rfl) ?_
        refine Dw.pure (i := 2) rfl (by kernel_rfl) (Want.none rfl) rfl (ltN rfl) (QP.move rfl rfl) ?_
        refine Dw.pure (i := 3) rfl (by kernel_rfl) (Want.none rfl) rfl (ltN rfl) (QP.nilCheck rfl rfl) ?_
        refine Dw.pure (i := 4) rfl (by kernel_rfl) (Want.none rfl) rfl (ltN rfl) (QP.fieldAddr rfl rfl f52_0) ?_
        refine Dw.read (i := 5) rfl (by kernel_rfl) (Want.none rfl) rfl (ltN rfl) (QR.load1 (v := .slice _ L2.length _) rfl rfl g44 (Ref04Queue.sub_l _)) ?_
        refine Dw.eff (i := 1) (by kernel_rfl) (by kernel_rfl) ?_
        refine One.mk (o := _) (l := [5]) rfl (by kernel_rfl) (Want.none rfl) rfl (ltN rfl) (EF.call rfl ce17 rfl (.cons (by repeat constructor) Takes.nil) (fun F' hle hr => listA F' (L := L2))) (by kernel_rfl) ?_
        rintro v186 _ ⟨_, rfl, rfl⟩
        refine ⟨?_, ?_⟩
        ·rw [List.forall_mem_cons]
         refine ⟨?_, fun _ h => (by cases h)⟩
         ·refine Look.app ?_
          exact Look.mk rfl rfl rfl (QR.load1 (v := .slice _ L2.length _) rfl rfl g44 (Ref04Queue.sub_l _))
        refine ?_
        refine J.app ?_
        refine Dw.slCase (v := v186) (xs := L2) (by repeat constructor) (fun a186 c186 hv186 hh186 => ?_)
        subst hv186
        refine Dw.eff (i := 6) (by kernel_rfl) (by kernel_rfl) ?_
        refine One.mk (o := _) (l := []) rfl (by kernel_rfl) (Want.none rfl) rfl (ltN rfl) (EF.call rfl ce21 rfl (.cons (by repeat constructor) (.cons (by repeat constructor) Takes.nil)) (fun F' hle hr => sameD F' hh186 hh2 (by omega) (by omega))) (by kernel_rfl) ?_
        rintro _ _ ⟨_, ⟨rfl, rfl⟩, rfl⟩
        refine ⟨fun _ h => (by cases h), ?_⟩
        refine J.app ?_
        refine J.boolT (decide_eq_true rfl) ?_
        refine Dw.pure (i := 7) rfl (by kernel_rfl) (Want.none rfl) rfl (ltN rfl) (QP.not rfl rfl) ?_
        refine Dw.pure (i := 8) rfl (by kernel_rfl) (Want.none rfl) rfl (ltN rfl) (QP.move rfl rfl) ?_
        refine Dw.pure (i := 9) rfl (by kernel_rfl) (Want.yes rfl rfl rfl rfl) rfl (ltN rfl) (QP.move rfl rfl) ?_
        refine Dw.pure (i := 11) rfl (by kernel_rfl) (Want.yes rfl rfl rfl rfl) rfl (ltN rfl) (QP.move rfl rfl) ?_
        refine Dw.pure (i := 12) rfl (by kernel_rfl) (Want.yes rfl rfl rfl rfl) rfl (ltN rfl) (QP.nilCheck rfl rfl) ?_
        refine Dw.pure (i := 13) rfl (by kernel_rfl) (Want.yes rfl rfl rfl rfl) rfl (ltN rfl) (QP.fieldAddr rfl rfl f52_0) ?_
        refine Dw.read (i := 14) rfl (by kernel_rfl) (Want.yes rfl rfl rfl rfl) rfl (ltN rfl) (QR.load1 (v := .slice _ L2.length _) rfl rfl g44 (Ref04Queue.sub_l _)) ?_
        refine Dw.pure (i := 15) rfl (by kernel_rfl) (Want.yes rfl rfl rfl rfl) rfl (ltN rfl) (QP.len rfl rfl rfl Try.underlying44) ?_
        refine Dw.eff (i := 10) (by kernel_rfl) (by kernel_rfl) ?_
        refine One.mk (o := _) (l := [14]) rfl (by kernel_rfl) (Want.yes rfl rfl rfl rfl) rfl (ltN rfl) (EF.call rfl ce13 rfl (.cons (by repeat constructor) Takes.nil) (fun F' hle hr => lenA F' (L := L2))) (by kernel_rfl) ?_
        rintro _ _ ⟨_, ⟨rfl, rfl⟩, rfl⟩
        refine ⟨?_, ?_⟩
        ·rw [List.forall_mem_cons]
         refine ⟨?_, fun _ h => (by cases h)⟩
         ·refine Look.app ?_
          exact Look.mk rfl rfl rfl (QR.load1 (v := .slice _ L2.length _) rfl rfl g44 (Ref04Queue.sub_l _))
        refine ?_
        refine J.app ?_
        refine Dw.pure (i := 16) rfl (by kernel_rfl) (Want.yes rfl rfl rfl rfl) rfl (ltN rfl) (QP.neq rfl rfl rfl) ?_
        refine J.decF (fun h9 => h9 rfl) ?_
        refine Dw.pure (i := 17) rfl (by kernel_rfl) (Want.none rfl) rfl (ltN rfl) (QP.pick_f rfl rfl rfl) ?_
        refine Dw.pure (i := 18) rfl (by kernel_rfl) (Want.none rfl) rfl (ltN rfl) (QP.move rfl rfl) ?_
        refine Dw.pure (i := 19) rfl (by kernel_rfl) (Want.yes rfl rfl rfl rfl) rfl (ltN rfl) (QP.move rfl rfl) ?_
        refine Dw.pure (i := 20) rfl (by kernel_rfl) (Want.yes rfl rfl rfl rfl) rfl (ltN rfl) (QP.move rfl rfl) ?_
        refine Dw.pure (i := 21) rfl (by kernel_rfl) (Want.yes rfl rfl rfl rfl) rfl (ltN rfl) (QP.nilCheck rfl rfl) ?_
        refine Dw.pure (i := 22) rfl (by kernel_rfl) (Want.yes rfl rfl rfl rfl) rfl (ltN rfl) (QP.fieldAddr rfl rfl f52_0) ?_
        refine Dw.read (i := 23) rfl (by kernel_rfl) (Want.yes rfl rfl rfl rfl) rfl (ltN rfl) (QR.load1 (v := .slice _ L2.length _) rfl rfl g44 (Ref04Queue.sub_l _)) ?_
        refine Dw.pure (i := 24) rfl (by kernel_rfl) (Want.yes rfl rfl rfl rfl) rfl (ltN rfl) (QP.len rfl rfl rfl Try.underlying44) ?_
        refine Dw.pure (i := 25) rfl (by kernel_rfl) (Want.yes rfl rfl rfl rfl) rfl (ltN rfl) (QP.gtr rfl rfl rfl) ?_
        refine Dw.pure (i := 26) rfl (by kernel_rfl) (Want.yes rfl rfl rfl rfl) rfl (ltN rfl) (QP.neqB rfl rfl rfl Try.underlying4) ?_
        refine J.boolF (by rw [decide_eq_false (show ¬ (L2.length : Int) > 0 from fun h => by rw [hpos.2 (by omega)] at c167; cases c167)]; rfl) ?_
        refine Dw.pure (i := 27) rfl (by kernel_rfl) (Want.none rfl) rfl (ltN rfl) (QP.pick_f rfl rfl rfl) ?_
        refine Dw.pure (i := 28) rfl (by kernel_rfl) (Want.none rfl) rfl (ltN rfl) (QP.move rfl rfl) ?_
        refine Dw.pure (i := 29) rfl (by kernel_rfl) (Want.yes rfl rfl rfl rfl) rfl (ltN rfl) (QP.move rfl rfl) ?_
        refine Dw.pure (i := 30) rfl (by kernel_rfl) (Want.yes rfl rfl rfl rfl) rfl (ltN rfl) (QP.move rfl rfl) ?_
        refine Dw.skip (i := 31) rfl (by kernel_rfl) (Want.no rfl rfl rfl rfl) rfl (ltN rfl) ?_
        refine Dw.skip (i := 32) rfl (by kernel_rfl) (Want.no rfl rfl rfl rfl) rfl (ltN rfl) ?_
        refine Dw.skip (i := 33) rfl (by kernel_rfl) (Want.no rfl rfl rfl rfl) rfl (ltN rfl) ?_
        refine Dw.skip (i := 34) rfl (by kernel_rfl) (Want.no rfl rfl rfl rfl) rfl (ltN rfl) ?_
        refine Dw.skip (i := 35) rfl (by kernel_rfl) (Want.no rfl rfl rfl rfl) rfl (ltN rfl) ?_
        refine Dw.skip (i := 36) rfl (by kernel_rfl) (Want.no rfl rfl rfl rfl) rfl (ltN rfl) ?_
        refine Dw.skip (i := 37) rfl (by kernel_rfl) (Want.no rfl rfl rfl rfl) rfl (ltN rfl) ?_
        refine Dw.skip (i := 38) rfl (by kernel_rfl) (Want.no rfl rfl rfl rfl) rfl (ltN rfl) ?_
        refine Dw.pure (i := 39) rfl (by kernel_rfl) (Want.yes rfl rfl rfl rfl) rfl (ltN rfl) (QP.pick_f rfl rfl rfl) ?_
        refine Dw.pure (i := 40) rfl (by kernel_rfl) (Want.none rfl) rfl (ltN rfl) (QP.pick_f rfl rfl rfl) ?_
        refine Dw.pure (i := 41) rfl (by kernel_rfl) (Want.none rfl) rfl (ltN rfl) (QP.move rfl rfl) ?_
        refine Dw.pure (i := 42) rfl (by kernel_rfl) (Want.yes rfl rfl rfl rfl) rfl (ltN rfl) (QP.move rfl rfl) ?_
        refine Dw.pure (i := 43) rfl (by kernel_rfl) (Want.yes rfl rfl rfl rfl) rfl (ltN rfl) (QP.move rfl rfl) ?_
        refine Dw.pure (i := 44) rfl (by kernel_rfl) (Want.yes rfl rfl rfl rfl) rfl (ltN rfl) (QP.geq rfl rfl rfl) ?_
        refine Dw.pure (i := 45) rfl (by kernel_rfl) (Want.yes rfl rfl rfl rfl) rfl (ltN rfl) (QP.neqB rfl rfl rfl Try.underlying4) ?_
        refine J.boolF (by rw [decide_eq_false (show ¬ n184 ≥ 0 from fun h => by rw [hthr.2 h] at c177; cases c177)]; rfl) ?_
        refine Dw.pure (i := 46) rfl (by kernel_rfl) (Want.none rfl) rfl (ltN rfl) (QP.pick_f rfl rfl rfl) ?_
        refine Dw.pure (i := 47) rfl (by kernel_rfl) (Want.none rfl) rfl (ltN rfl) (QP.move rfl rfl) ?_
        refine Dw.pure (i := 48) rfl (by kernel_rfl) (Want.yes rfl rfl rfl rfl) rfl (ltN rfl) (QP.move rfl rfl) ?_
        refine Dw.pure (i := 49) rfl (by kernel_rfl) (Want.yes rfl rfl rfl rfl) rfl (ltN rfl) (QP.move rfl rfl) ?_
        refine Dw.skip (i := 50) rfl (by kernel_rfl) (Want.no rfl rfl rfl rfl) rfl (ltN rfl) ?_
        refine Dw.skip (i := 51) rfl (by kernel_rfl) (Want.no rfl rfl rfl rfl) rfl (ltN rfl) ?_
        refine Dw.skip (i := 52) rfl (by kernel_rfl) (Want.no rfl rfl rfl rfl) rfl (ltN rfl) ?_
        refine Dw.skip (i := 53) rfl (by kernel_rfl) (Want.no rfl rfl rfl rfl) rfl (ltN rfl) ?_
        refine Dw.skip (i := 54) rfl (by kernel_rfl) (Want.no rfl rfl rfl rfl) rfl (ltN rfl) ?_
        refine Dw.skip (i := 55) rfl (by kernel_rfl) (Want.no rfl rfl rfl rfl) rfl (ltN rfl) ?_
        refine Dw.skip (i := 56) rfl (by kernel_rfl) (Want.no rfl rfl rfl rfl) rfl (ltN rfl) ?_
        refine Dw.skip (i := 57) rfl (by kernel_rfl) (Want.no rfl rfl rfl rfl) rfl (ltN rfl) ?_
        refine Dw.skip (i := 58) rfl (by kernel_rfl) (Want.no rfl rfl rfl rfl) rfl (ltN rfl) ?_
        refine Dw.skip (i := 59) rfl (by kernel_rfl) (Want.no rfl rfl rfl rfl) rfl (ltN rfl) ?_
        refine Dw.pure (i := 60) rfl (by kernel_rfl) (Want.yes rfl rfl rfl rfl) rfl (ltN rfl) (QP.pick_f rfl rfl rfl) ?_
        refine Dw.pure (i := 61) rfl (by kernel_rfl) (Want.none rfl) rfl (ltN rfl) (QP.pick_f rfl rfl rfl) ?_
        refine Dw.nil (by kernel_rfl) ?_
        refine hk37 _ _ ?_
        refine Run.cond_f rfl ?_
        refine Run.skip ?_
        refine hk25 _ _ ?_
        refine Run.region ?_
        show Sq _ _ _ [0, 1, 2] _ _ _ _
        refine Sq.quiet (i := 0) rfl (Want.none rfl) rfl (ltN rfl) (QP.move rfl rfl).read ?_
        refine Sq.quiet (i := 1) rfl (Want.none rfl) rfl (ltN rfl) (QP.add64 rfl rfl rfl (by first | omega | (simp <;> omega)) (by first | omega | (simp <;> omega))).read ?_
        refine Sq.quiet (i := 2) rfl (Want.none rfl) rfl (ltN rfl) (QP.assign rfl rfl).read ?_
        refine Sq.nil ?_
        exact J.envJ (J.keep (.cons (by repeat constructor) (.cons (by repeat constructor) (.cons (by repeat constructor) Takes.nil))) (hl22 (i + 1) (L2) (ra2) (rc2) (⟨by omega, hl2⟩) (by omega))) ⟨rfl, rfl, rfl, rfl, trivial⟩
     ·skip
      intro ku26 hu26
      refine Run.seq fun k38 hk38 => ?_
      refine Run.region ?_
      show Sq _ _ _ [0, 1, 2, 3, 4] _ _ _ _
      obtain ⟨x, hj⟩ : ∃ x, xs[i]? = some x := ⟨_, List.getElem?_eq_getElem (by omega)⟩
      obtain ⟨b1, o1, hax, hs2⟩ := ha.get (by omega)
      have hxm := List.mem_of_getElem? hj
      obtain ⟨hxk, -, hxt⟩ := hw x hxm
      subst hax
      have hxs : x.name.size ≤ maxLen := (hw x hxm).2.1
      refine J.slCase (v := .slice ra L.length rc) (xs := L) (by repeat constructor) (fun a3 c3 hv3 hhr => ?_)
      cases hv3
      refine J.qa (b := tb) (L := L) (by repeat constructor) (fun hG => ?_)
      refine Sq.quiet (i := 0) rfl (Want.none rfl) rfl (ltN rfl) (QP.move rfl rfl).read ?_
      refine Sq.quiet (i := 1) rfl (Want.none rfl) rfl (ltN rfl) (QP.move rfl rfl).read ?_
      refine Sq.quiet (i := 2) rfl (Want.none rfl) rfl (ltN rfl) (QP.indexAddr rfl rfl rfl Try.underlying32 z35 (by first | omega | (simp <;> omega)) (by first | omega | (simp <;> omega))).read ?_
      refine Sq.quiet (i := 3) rfl (Want.none rfl) rfl (ltN rfl) (QP.fieldAddr rfl rfl f35_0).read ?_
      refine Sq.quiet (i := 4) rfl (Want.none rfl) rfl (ltN rfl) (QR.loadSlF1 rfl rfl g3 Law04Act.enc_len (hs2 _) hj (Law04Act.sub_kind _)) ?_
      refine Sq.nil ?_
      refine hk38 _ _ ?_
      refine Run.block ?_
      refine Run.seq fun k39 hk39 => ?_
      refine Run.region ?_
      show Sq _ _ _ [0, 1] _ _ _ _
      refine Sq.quiet (i := 0) rfl (Want.none rfl) rfl (ltN rfl) (QP.eql rfl rfl rfl).read ?_
      refine J.caseD (fun c62 => ?_) (fun c62 => ?_)
      ·skip
       refine Sq.quiet (i := 1) rfl (Want.none rfl) rfl (ltN rfl) (QP.assign rfl rfl).read ?_
       refine Sq.nil ?_
       refine hk39 _ _ ?_
       refine Run.cond_t rfl ?_
       refine Run.seq fun k40 hk40 => ?_
       refine Run.regionD (M := [0, 0, 0, 6, 14, 30, 0, 0, 192, 448, 960, 2047, 4095, 0, 0, 0, 49152, 114688, 245760, 0, 0, 1572864, 3670016, 7864320, 16777215, 33554431]) (q := 50325503) (r := 8651808) (by kernel_rfl) ?_
       refine Dw.pure (i := 0) rfl (by kernel_rfl) (Want.none rfl) rfl (ltN rfl) (QP.move rfl rfl) ?_
       refine Dw.pure (i := 1) rfl (by kernel_rfl) (Want.none rfl) rfl (ltN rfl) (QP.move rfl rfl) ?_
       refine Dw.pure (i := 2) rfl (by kernel_rfl) (Want.none rfl) rfl (ltN rfl) (QP.move rfl rfl) ?_
       refine Dw.pure (i := 3) rfl (by kernel_rfl) (Want.none rfl) rfl (ltN rfl) (QP.indexAddr rfl rfl rfl Try.underlying32 z35 (by first | omega | (simp <;> omega)) (by first | omega | (simp <;> omega))) ?_
       refine Dw.pure (i := 4) rfl (by kernel_rfl) (Want.none rfl) rfl (ltN rfl) (QP.fieldAddr rfl rfl f35_1) ?_
       refine Dw.read (i := 5) rfl (by kernel_rfl) (Want.none rfl) rfl (ltN rfl) (QR.loadSlF1 rfl rfl g9 Law04Act.enc_len (hs2 _) hj (Law04Act.sub_name _)) ?_
       refine Dw.pure (i := 6) rfl (by kernel_rfl) (Want.none rfl) rfl (ltN rfl) (QP.move rfl rfl) ?_
       refine Dw.pure (i := 7) rfl (by kernel_rfl) (Want.none rfl) rfl (ltN rfl) (QP.move rfl rfl) ?_
       refine Dw.pure (i := 8) rfl (by kernel_rfl) (Want.none rfl) rfl (ltN rfl) (QP.indexAddr rfl rfl rfl Try.underlying32 z35 (by first | omega | (simp <;> omega)) (by first | omega | (simp <;> omega))) ?_
       refine Dw.pure (i := 9) rfl (by kernel_rfl) (Want.none rfl) rfl (ltN rfl) (QP.fieldAddr rfl rfl f35_2) ?_
       refine Dw.read (i := 10) rfl (by kernel_rfl) (Want.none rfl) rfl (ltN rfl) (QR.loadSlF1 rfl rfl g3 Law04Act.enc_len (hs2 _) hj (Law04Act.sub_at_ _)) ?_
       refine Dw.pure (i := 13) rfl (by kernel_rfl) (Want.none rfl) rfl (ltN rfl) (QP.move rfl rfl) ?_
       refine Dw.pure (i := 14) rfl (by kernel_rfl) (Want.none rfl) rfl (ltN rfl) (QP.move rfl rfl) ?_
       refine Dw.pure (i := 15) rfl (by kernel_rfl) (Want.none rfl) rfl (ltN rfl) (QP.move rfl rfl) ?_
       refine Dw.pure (i := 16) rfl (by kernel_rfl) (Want.none rfl) rfl (ltN rfl) (QP.indexAddr rfl rfl rfl Try.underlying32 z35 (by first | omega | (simp <;> omega)) (by first | omega | (simp <;> omega))) ?_
       refine Dw.pure (i := 17) rfl (by kernel_rfl) (Want.none rfl) rfl (ltN rfl) (QP.fieldAddr rfl rfl f35_1) ?_
       refine Dw.read (i := 18) rfl (by kernel_rfl) (Want.none rfl) rfl (ltN rfl) (QR.loadSlF1 rfl rfl g9 Law04Act.enc_len (hs2 _) hj (Law04Act.sub_name _)) ?_
       refine Dw.pure (i := 19) rfl (by kernel_rfl) (Want.none rfl) rfl (ltN rfl) (QP.move rfl rfl) ?_
       refine Dw.pure (i := 20) rfl (by kernel_rfl) (Want.none rfl) rfl (ltN rfl) (QP.move rfl rfl) ?_
       refine Dw.pure (i := 21) rfl (by kernel_rfl) (Want.none rfl) rfl (ltN rfl) (QP.indexAddr rfl rfl rfl Try.underlying32 z35 (by first | omega | (simp <;> omega)) (by first | omega | (simp <;> omega))) ?_
       refine Dw.pure (i := 22) rfl (by kernel_rfl) (Want.none rfl) rfl (ltN rfl) (QP.fieldAddr rfl rfl f35_2) ?_
       refine Dw.read (i := 23) rfl (by kernel_rfl) (Want.none rfl) rfl (ltN rfl) (QR.loadSlF1 rfl rfl g3 Law04Act.enc_len (hs2 _) hj (Law04Act.sub_at_ _)) ?_
       refine Dw.eff (i := 11) (by kernel_rfl) (by kernel_rfl) ?_
       refine One.mk (o := _) (l := [23, 18]) rfl (by kernel_rfl) (Want.none rfl) rfl (ltN rfl) (EF.call rfl ce11 rfl (.cons (by repeat constructor) Takes.nil) (fun F' hle hr => setA F' (L := L) (⟨x.name, hxs⟩ : Str) x.at_)) (by kernel_rfl) ?_
       rintro _ _ ⟨_, ⟨rfl, rfl⟩, rfl⟩
       refine ⟨?_, ?_⟩
       ·rw [List.forall_mem_cons, List.forall_mem_cons]
        refine ⟨?_, ?_, fun _ h => (by cases h)⟩
        ·refine Look.app ?_
         exact Look.mk rfl rfl rfl (QR.loadSlF1 rfl rfl g3 Law04Act.enc_len (hs2 _) hj (Law04Act.sub_at_ _))
        ·refine Look.app ?_
         exact Look.mk rfl rfl rfl (QR.loadSlF1 rfl rfl g9 Law04Act.enc_len (hs2 _) hj (Law04Act.sub_name _))
       refine ?_
       refine J.app ?_
       refine Dw.eff (i := 12) (by kernel_rfl) (by kernel_rfl) ?_
       refine One.mk (o := _) (l := [23, 18]) rfl (by kernel_rfl) (Want.none rfl) rfl (ltN rfl) (EF.call rfl ce12 rfl Takes.nil (fun F' hle hr => num_spec F' _)) (by kernel_rfl) ?_
       rintro _ _ ⟨_, ⟨rfl, rfl⟩, rfl⟩
       refine ⟨?_, ?_⟩
       ·rw [List.forall_mem_cons, List.forall_mem_cons]
        refine ⟨?_, ?_, fun _ h => (by cases h)⟩
        ·refine Look.app ?_
         exact Look.mk rfl rfl rfl (QR.loadSlF1 rfl rfl g3 Law04Act.enc_len (hs2 _) hj (Law04Act.sub_at_ _))
        ·refine Look.app ?_
         exact Look.mk rfl rfl rfl (QR.loadSlF1 rfl rfl g9 Law04Act.enc_len (hs2 _) hj (Law04Act.sub_name _))
       refine ?_
       refine J.app ?_
       refine Dw.eff (i := 24) (by kernel_rfl) (by kernel_rfl) ?_
       refine One.mk (o := _) (l := []) rfl (by kernel_rfl) (Want.none rfl) rfl (ltN rfl) (EF.call rfl ce22 rfl (.cons (by repeat constructor) (.cons (by repeat constructor) Takes.nil)) (fun F' hle hr => rset_spec F' hG x.name x.at_)) (by kernel_rfl) ?_
       rintro _ _ ⟨_, ⟨ra2, rc2, rfl, rfl⟩, rfl⟩
       refine ⟨fun _ h => (by cases h), ?_⟩
       refine J.app ?_
       refine Dw.pure (i := 25) rfl (by kernel_rfl) (Want.none rfl) rfl (ltN rfl) (QP.neq rfl rfl rfl) ?_
       refine J.decF (fun h9 => h9 rfl) ?_
       refine Dw.nil (by kernel_rfl) ?_
       refine hk40 _ _ ?_
       refine Run.cond_f rfl ?_
       refine Run.skip ?_
       exact J.envJ (J.keep (.cons (by repeat constructor) (.cons (by repeat constructor) (.cons (by repeat constructor) Takes.nil))) (hu26 ((setR L x.name x.at_).2) (ra2) (rc2) (by have := setR_len L x.name x.at_; omega))) ⟨rfl, rfl, rfl, rfl, trivial⟩
      ·skip
       refine Sq.quiet (i := 1) rfl (Want.none rfl) rfl (ltN rfl) (QP.assign rfl rfl).read ?_
       refine Sq.nil ?_
       refine hk39 _ _ ?_
       refine Run.cond_f rfl ?_
       refine Run.seq fun k41 hk41 => ?_
       refine Run.region ?_
       show Sq _ _ _ [0, 1] _ _ _ _
       refine Sq.quiet (i := 0) rfl (Want.none rfl) rfl (ltN rfl) (QP.eql rfl rfl rfl).read ?_
       refine J.caseD (fun c90 => ?_) (fun c90 => ?_)
       ·skip
        refine Sq.quiet (i := 1) rfl (Want.none rfl) rfl (ltN rfl) (QP.assign rfl rfl).read ?_
        refine Sq.nil ?_
        refine hk41 _ _ ?_
        refine Run.cond_t rfl ?_
        refine Run.seq fun k42 hk42 => ?_
        refine Run.region ?_
        show Sq _ _ _ [0] _ _ _ _
        refine Sq.quiet (i := 0) rfl (Want.none rfl) rfl (ltN rfl) (QP.assign rfl rfl).read ?_
        refine Sq.nil ?_
        refine hk42 _ _ ?_
        refine Run.seq fun k43 hk43 => ?_
        refine Run.seq fun k44 hk44 => ?_
        refine Run.region ?_
        show Sq _ _ _ [0, 1, 2, 3, 4, 5, 6] _ _ _ _
        refine Sq.quiet (i := 0) rfl (Want.none rfl) rfl (ltN rfl) (QP.move rfl rfl).read ?_
        refine Sq.quiet (i := 1) rfl (Want.none rfl) rfl (ltN rfl) (QP.move rfl rfl).read ?_
        refine Sq.quiet (i := 2) rfl (Want.none rfl) rfl (ltN rfl) (QP.move rfl rfl).read ?_
        refine Sq.quiet (i := 3) rfl (Want.none rfl) rfl (ltN rfl) (QP.indexAddr rfl rfl rfl Try.underlying32 z35 (by first | omega | (simp <;> omega)) (by first | omega | (simp <;> omega))).read ?_
        refine Sq.quiet (i := 4) rfl (Want.none rfl) rfl (ltN rfl) (QP.fieldAddr rfl rfl f35_1).read ?_
        refine Sq.quiet (i := 5) rfl (Want.none rfl) rfl (ltN rfl) (QR.loadSlF1 rfl rfl g9 Law04Act.enc_len (hs2 _) hj (Law04Act.sub_name _)) ?_
        refine Sq.eff (i := 6) rfl (Want.none rfl) rfl (ltN rfl) (EF.call rfl ce23 rfl (.cons (by repeat constructor) (.cons (by repeat constructor) Takes.nil)) (fun F' hle hr => rcancel_spec F' (by omega) hG.nodup x.name)) ?_
        rintro _ _ ⟨_, ⟨ra2, rc2, rfl, rfl⟩, rfl⟩
        refine J.app ?_
        refine J.caseB (fun c97 => ?_) (fun c97 => ?_)
        ·skip
         refine Sq.nil ?_
         refine hk44 _ _ ?_
         refine Run.cond_t rfl ?_
         refine Run.region ?_
         show Sq _ _ _ [0] _ _ _ _
         refine Sq.quiet (i := 0) rfl (Want.none rfl) rfl (ltN rfl) (QP.assign rfl rfl).read ?_
         refine Sq.nil ?_
         refine hk43 _ _ ?_
         refine Run.seq fun k45 hk45 => ?_
         refine Run.regionD (M := [0, 0, 0, 6, 14, 30, 0, 0, 192, 448, 960, 2046, 4095, 0, 16383]) (q := 26623) (r := 1056) (by kernel_rfl) ?_
         refine Dw.pure (i := 0) rfl (by kernel_rfl) (Want.none rfl) rfl (ltN rfl) (QP.move rfl rfl) ?_
         refine Dw.pure (i := 1) rfl (by kernel_rfl) (Want.none rfl) rfl (ltN rfl) (QP.move rfl rfl) ?_
         refine Dw.pure (i := 2) rfl (by kernel_rfl) (Want.none rfl) rfl (ltN rfl) (QP.move rfl rfl) ?_
         refine Dw.pure (i := 3) rfl (by kernel_rfl) (Want.none rfl) rfl (ltN rfl) (QP.indexAddr rfl rfl rfl Try.underlying32 z35 (by first | omega | (simp <;> omega)) (by first | omega | (simp <;> omega))) ?_
         refine Dw.pure (i := 4) rfl (by kernel_rfl) (Want.none rfl) rfl (ltN rfl) (QP.fieldAddr rfl rfl f35_1) ?_
         refine Dw.read (i := 5) rfl (by kernel_rfl) (Want.none rfl) rfl (ltN rfl) (QR.loadSlF1 rfl rfl g9 Law04Act.enc_len (hs2 _) hj (Law04Act.sub_name _)) ?_
         refine Dw.pure (i := 6) rfl (by kernel_rfl) (Want.none rfl) rfl (ltN rfl) (QP.move rfl rfl) ?_
         refine Dw.pure (i := 7) rfl (by kernel_rfl) (Want.none rfl) rfl (ltN rfl) (QP.move rfl rfl) ?_
         refine Dw.pure (i := 8) rfl (by kernel_rfl) (Want.none rfl) rfl (ltN rfl) (QP.indexAddr rfl rfl rfl Try.underlying32 z35 (by first | omega | (simp <;> omega)) (by first | omega | (simp <;> omega))) ?_
         refine Dw.pure (i := 9) rfl (by kernel_rfl) (Want.none rfl) rfl (ltN rfl) (QP.fieldAddr rfl rfl f35_1) ?_
         refine Dw.read (i := 10) rfl (by kernel_rfl) (Want.none rfl) rfl (ltN rfl) (QR.loadSlF1 rfl rfl g9 Law04Act.enc_len (hs2 _) hj (Law04Act.sub_name _)) ?_
         refine Dw.pure (i := 13) rfl (by kernel_rfl) (Want.none rfl) rfl (ltN rfl) (QP.move rfl rfl) ?_
         refine Dw.eff (i := 11) (by kernel_rfl) (by kernel_rfl) ?_
         refine One.mk (o := _) (l := []) rfl (by kernel_rfl) (Want.none rfl) rfl (ltN rfl) (EF.buildSliceS rfl Try.underlying33 z9 zero9 rfl (by decide) rfl rfl rfl rfl) (by kernel_rfl) ?_
         rintro _ _ ⟨b109, rfl, rfl⟩
         refine ⟨fun _ h => (by cases h), ?_⟩
         refine Dw.eff (i := 12) (by kernel_rfl) (by kernel_rfl) ?_
         refine One.mk (o := _) (l := []) rfl (by kernel_rfl) (Want.none rfl) rfl (ltN rfl) (EF.call rfl ce14 rfl (.cons (by repeat constructor) Takes.nil) (fun F' hle hr => cancelTwo F' (L := L) hG.nodup hxs (argSl_all (enc := fun s => [Value.string s]) (fun _ => rfl) (hr b109 _ (by repeat constructor))))) (by kernel_rfl) ?_
         rintro _ _ ⟨_, ⟨gn, rfl, rfl, hg1, hg2, hg3⟩, rfl⟩
         refine ⟨fun _ h => (by cases h), ?_⟩
         refine J.app ?_
         refine Dw.pure (i := 14) rfl (by kernel_rfl) (Want.none rfl) rfl (ltN rfl) (QP.neq rfl rfl rfl) ?_
         refine J.decF (fun h9 => h9 (hg1.2 c97)) ?_
         refine Dw.nil (by kernel_rfl) ?_
         refine hk45 _ _ ?_
         refine Run.cond_f rfl ?_
         refine Run.skip ?_
         exact J.envJ (J.keep (.cons (by repeat constructor) (.cons (by repeat constructor) (.cons (by repeat constructor) Takes.nil))) (hu26 ((delD L x.name)) (ra2) (rc2) (by have := del_len L x.name; omega))) ⟨rfl, rfl, rfl, rfl, trivial⟩
        ·skip
         refine Sq.nil ?_
         refine hk44 _ _ ?_
         refine Run.cond_f rfl ?_
         refine Run.skip ?_
         refine hk43 _ _ ?_
         refine Run.seq fun k46 hk46 => ?_
         refine Run.regionD (M := [0, 0, 0, 6, 14, 30, 0, 0, 192, 448, 960, 2046, 4095, 0, 16383]) (q := 26623) (r := 1056) (by kernel_rfl) ?_
         refine Dw.pure (i := 0) rfl (by kernel_rfl) (Want.none rfl) rfl (ltN rfl) (QP.move rfl rfl) ?_
         refine Dw.pure (i := 1) rfl (by kernel_rfl) (Want.none rfl) rfl (ltN rfl) (QP.move rfl rfl) ?_
         refine Dw.pure (i := 2) rfl (by kernel_rfl) (Want.none rfl) rfl (ltN rfl) (QP.move rfl rfl) ?_
         refine Dw.pure (i := 3) rfl (by kernel_rfl) (Want.none rfl) rfl (ltN rfl) (QP.indexAddr rfl rfl rfl Try.underlying32 z35 (by first | omega | (simp <;> omega)) (by first | omega | (simp <;> omega))) ?_
         refine Dw.pure (i := 4) rfl (by kernel_rfl) (Want.none rfl) rfl (ltN rfl) (QP.fieldAddr rfl rfl f35_1) ?_
         refine Dw.read (i := 5) rfl (by kernel_rfl) (Want.none rfl) rfl (ltN rfl) (QR.loadSlF1 rfl rfl g9 Law04Act.enc_len (hs2 _) hj (Law04Act.sub_name _)) ?_
         refine Dw.pure (i := 6) rfl (by kernel_rfl) (Want.none rfl) rfl (ltN rfl) (QP.move rfl rfl) ?_
         refine Dw.pure (i := 7) rfl (by kernel_rfl) (Want.none rfl) rfl (ltN rfl) (QP.move rfl rfl) ?_
         refine Dw.pure (i := 8) rfl (by kernel_rfl) (Want.none rfl) rfl (ltN rfl) (QP.indexAddr rfl rfl rfl Try.underlying32 z35 (by first | omega | (simp <;> omega)) (by first | omega | (simp <;> omega))) ?_
         refine Dw.pure (i := 9) rfl (by kernel_rfl) (Want.none rfl) rfl (ltN rfl) (QP.fieldAddr rfl rfl f35_1) ?_
         refine Dw.read (i := 10) rfl (by kernel_rfl) (Want.none rfl) rfl (ltN rfl) (QR.loadSlF1 rfl rfl g9 Law04Act.enc_len (hs2 _) hj (Law04Act.sub_name _)) ?_
         refine Dw.pure (i := 13) rfl (by kernel_rfl) (Want.none rfl) rfl (ltN rfl) (QP.move rfl rfl) ?_
         refine Dw.eff (i := 11) (by kernel_rfl) (by kernel_rfl) ?_
         refine One.mk (o := _) (l := []) rfl (by kernel_rfl) (Want.none rfl) rfl (ltN rfl) (EF.buildSliceS rfl Try.underlying33 z9 zero9 rfl (by decide) rfl rfl rfl rfl) (by kernel_rfl) ?_
         rintro _ _ ⟨b109, rfl, rfl⟩
         refine ⟨fun _ h => (by cases h), ?_⟩
         refine Dw.eff (i := 12) (by kernel_rfl) (by kernel_rfl) ?_
         refine One.mk (o := _) (l := []) rfl (by kernel_rfl) (Want.none rfl) rfl (ltN rfl) (EF.call rfl ce14 rfl (.cons (by repeat constructor) Takes.nil) (fun F' hle hr => cancelTwo F' (L := L) hG.nodup hxs (argSl_all (enc := fun s => [Value.string s]) (fun _ => rfl) (hr b109 _ (by repeat constructor))))) (by kernel_rfl) ?_
         rintro _ _ ⟨_, ⟨gn, rfl, rfl, hg1, hg2, hg3⟩, rfl⟩
         refine ⟨fun _ h => (by cases h), ?_⟩
         refine J.app ?_
         refine Dw.pure (i := 14) rfl (by kernel_rfl) (Want.none rfl) rfl (ltN rfl) (QP.neq rfl rfl rfl) ?_
         refine J.decF (fun h9 => h9 (by rcases (show gn = 0 ∨ gn = 1 by omega) with h | h; exact h; exact absurd (hg1.1 h) (by rw [c97]; simp))) ?_
         refine Dw.nil (by kernel_rfl) ?_
         refine hk46 _ _ ?_
         refine Run.cond_f rfl ?_
         refine Run.skip ?_
         exact J.envJ (J.keep (.cons (by repeat constructor) (.cons (by repeat constructor) (.cons (by repeat constructor) Takes.nil))) (hu26 ((delD L x.name)) (ra2) (rc2) (by have := del_len L x.name; omega))) ⟨rfl, rfl, rfl, rfl, trivial⟩
       ·skip
        refine Sq.quiet (i := 1) rfl (Want.none rfl) rfl (ltN rfl) (QP.assign rfl rfl).read ?_
        refine Sq.nil ?_
        refine hk41 _ _ ?_
        refine Run.cond_f rfl ?_
        refine Run.seq fun k47 hk47 => ?_
        refine Run.region ?_
        show Sq _ _ _ [0, 1] _ _ _ _
        refine Sq.quiet (i := 0) rfl (Want.none rfl) rfl (ltN rfl) (QP.eql rfl rfl rfl).read ?_
        refine J.caseD (fun c114 => ?_) (fun c114 => ?_)
        ·skip
         refine Sq.quiet (i := 1) rfl (Want.none rfl) rfl (ltN rfl) (QP.assign rfl rfl).read ?_
         refine Sq.nil ?_
         refine hk47 _ _ ?_
         refine Run.cond_t rfl ?_
         refine Run.seq fun k48 hk48 => ?_
         refine Run.region ?_
         show Sq _ _ _ [0, 1, 2, 3, 4, 5, 6, 7, 8, 9, 10, 11, 12] _ _ _ _
         refine Sq.quiet (i := 0) rfl (Want.none rfl) rfl (ltN rfl) (QP.move rfl rfl).read ?_
         refine Sq.quiet (i := 1) rfl (Want.none rfl) rfl (ltN rfl) (QP.move rfl rfl).read ?_
         refine Sq.quiet (i := 2) rfl (Want.none rfl) rfl (ltN rfl) (QP.move rfl rfl).read ?_
         refine Sq.quiet (i := 3) rfl (Want.none rfl) rfl (ltN rfl) (QP.indexAddr rfl rfl rfl Try.underlying32 z35 (by first | omega | (simp <;> omega)) (by first | omega | (simp <;> omega))).read ?_
         refine Sq.quiet (i := 4) rfl (Want.none rfl) rfl (ltN rfl) (QP.fieldAddr rfl rfl f35_2).read ?_
         refine Sq.quiet (i := 5) rfl (Want.none rfl) rfl (ltN rfl) (QR.loadSlF1 rfl rfl g3 Law04Act.enc_len (hs2 _) hj (Law04Act.sub_at_ _)) ?_
         refine Sq.eff (i := 6) rfl (Want.none rfl) rfl (ltN rfl) (EF.call rfl ce16 rfl (.cons (by repeat constructor) Takes.nil) (fun F' hle hr => popA F' (L := L) x.at_)) ?_
         rintro _ _ ⟨_, ⟨rfl, rfl⟩, rfl⟩
         refine J.app ?_
         refine Sq.quiet (i := 7) rfl (Want.none rfl) rfl (ltN rfl) (QP.move rfl rfl).read ?_
         refine Sq.quiet (i := 8) rfl (Want.none rfl) rfl (ltN rfl) (QP.extract rfl rfl rfl).read ?_
         refine Sq.quiet (i := 9) rfl (Want.none rfl) rfl (ltN rfl) (QP.extract rfl rfl rfl).read ?_
         refine Sq.eff (i := 10) rfl (Want.none rfl) rfl (ltN rfl) (EF.allocA (l := Due.enc Due.zero) rfl zero40) ?_
         rintro _ _ ⟨b9, rfl, rfl⟩
         refine Sq.act (i := 11) rfl (Want.none rfl) rfl (EF.storeA rfl rfl rfl z40 (SetL.all (Due.enc_len _) (Due.enc_len _)) (Due.enc_cell _)) ?_
         rintro _ _ rfl
         refine Sq.quiet (i := 12) rfl (Want.none rfl) rfl (ltN rfl) (QP.assign rfl rfl).read ?_
         refine Sq.nil ?_
         refine hk48 _ _ ?_
         refine Run.seq fun k49 hk49 => ?_
         refine Run.region ?_
         show Sq _ _ _ [0, 1, 2, 3, 4, 5, 6, 7, 8, 9, 10, 11, 12] _ _ _ _
         refine Sq.quiet (i := 0) rfl (Want.none rfl) rfl (ltN rfl) (QP.move rfl rfl).read ?_
         refine Sq.quiet (i := 1) rfl (Want.none rfl) rfl (ltN rfl) (QP.move rfl rfl).read ?_
         refine Sq.quiet (i := 2) rfl (Want.none rfl) rfl (ltN rfl) (QP.move rfl rfl).read ?_
         refine Sq.quiet (i := 3) rfl (Want.none rfl) rfl (ltN rfl) (QP.indexAddr rfl rfl rfl Try.underlying32 z35 (by first | omega | (simp <;> omega)) (by first | omega | (simp <;> omega))).read ?_
         refine Sq.quiet (i := 4) rfl (Want.none rfl) rfl (ltN rfl) (QP.fieldAddr rfl rfl f35_2).read ?_
         refine Sq.quiet (i := 5) rfl (Want.none rfl) rfl (ltN rfl) (QR.loadSlF1 rfl rfl g3 Law04Act.enc_len (hs2 _) hj (Law04Act.sub_at_ _)) ?_
         refine Sq.eff (i := 6) rfl (Want.none rfl) rfl (ltN rfl) (EF.call rfl ce24 rfl (.cons (by repeat constructor) (.cons (by repeat constructor) Takes.nil)) (fun F' hle hr => rpop_spec F' (by omega) x.at_)) ?_
         rintro _ _ ⟨_, ⟨ra2, rc2, rfl, rfl⟩, rfl⟩
         refine J.app ?_
         refine Sq.quiet (i := 7) rfl (Want.none rfl) rfl (ltN rfl) (QP.move rfl rfl).read ?_
         refine Sq.quiet (i := 8) rfl (Want.none rfl) rfl (ltN rfl) (QP.extract rfl rfl rfl).read ?_
         refine Sq.quiet (i := 9) rfl (Want.none rfl) rfl (ltN rfl) (QP.extract rfl rfl rfl).read ?_
         refine Sq.eff (i := 10) rfl (Want.none rfl) rfl (ltN rfl) (EF.allocA (l := Due.enc Due.zero) rfl zero40) ?_
         rintro _ _ ⟨b11, rfl, rfl⟩
         refine Sq.act (i := 11) rfl (Want.none rfl) rfl (EF.storeA rfl rfl rfl z40 (SetL.all (Due.enc_len _) (Due.enc_len _)) (Due.enc_cell _)) ?_
         rintro _ _ rfl
         refine Sq.quiet (i := 12) rfl (Want.none rfl) rfl (ltN rfl) (QP.assign rfl rfl).read ?_
         refine Sq.nil ?_
         refine hk49 _ _ ?_
         refine Run.seq fun k50 hk50 => ?_
         refine Run.region ?_
         show Sq _ _ _ [0, 1, 2, 3, 4, 5, 6, 7] _ _ _ _
         refine Sq.quiet (i := 0) rfl (Want.none rfl) rfl (ltN rfl) (QR.load rfl rfl g40 (Due.enc_sub _)) ?_
         refine Sq.quiet (i := 1) rfl (Want.none rfl) rfl (ltN rfl) (QR.load rfl rfl g40 (Due.enc_sub _)) ?_
         refine Sq.quiet (i := 2) rfl (Want.none rfl) rfl (ltN rfl) (QP.neq_agg eq40 rfl rfl rfl).read ?_
         refine J.decF (fun h9 => h9 rfl) ?_
         refine Sq.quiet (i := 3) rfl (Want.none rfl) rfl (ltN rfl) (QP.move rfl rfl).read ?_
         refine Sq.quiet (i := 4) rfl (Want.yes rfl rfl rfl rfl) rfl (ltN rfl) (QP.move rfl rfl).read ?_
         refine Sq.quiet (i := 5) rfl (Want.yes rfl rfl rfl rfl) rfl (ltN rfl) (QP.move rfl rfl).read ?_
         refine Sq.quiet (i := 6) rfl (Want.yes rfl rfl rfl rfl) rfl (ltN rfl) (QP.neqB rfl rfl rfl Try.underlying4).read ?_
         refine J.boolF (by simp) ?_
         refine Sq.quiet (i := 7) rfl (Want.none rfl) rfl (ltN rfl) (QP.pick_f rfl rfl rfl).read ?_
         refine Sq.nil ?_
         refine hk50 _ _ ?_
         refine Run.cond_f rfl ?_
         refine Run.skip ?_
         exact J.envJ (J.keep (.cons (by repeat constructor) (.cons (by repeat constructor) (.cons (by repeat constructor) Takes.nil))) (hu26 ((popD L x.at_).2.2) (ra2) (rc2) (by have := pop_len L x.at_; omega))) ⟨rfl, rfl, rfl, rfl, trivial⟩
        ·skip
         refine Sq.quiet (i := 1) rfl (Want.none rfl) rfl (ltN rfl) (QP.assign rfl rfl).read ?_
         refine Sq.nil ?_
         refine hk47 _ _ ?_
         refine Run.cond_f rfl ?_
         refine Run.seq fun k51 hk51 => ?_
         refine Run.region ?_
         show Sq _ _ _ [0, 1] _ _ _ _
         refine Sq.quiet (i := 0) rfl (Want.none rfl) rfl (ltN rfl) (QP.eql rfl rfl rfl).read ?_
         refine J.caseD (fun c144 => ?_) (fun c144 => ?_)
         ·skip
          refine Sq.quiet (i := 1) rfl (Want.none rfl) rfl (ltN rfl) (QP.assign rfl rfl).read ?_
          refine Sq.nil ?_
          refine hk51 _ _ ?_
          refine Run.cond_t rfl ?_
          refine Run.seq fun k52 hk52 => ?_
          refine Run.region ?_
          show Sq _ _ _ [0, 1, 2] _ _ _ _
          refine Sq.quiet (i := 0) rfl (Want.none rfl) rfl (ltN rfl) (QP.move rfl rfl).read ?_
          refine Sq.eff (i := 1) rfl (Want.none rfl) rfl (ltN rfl) (EF.call rfl ce20 rfl (.cons (by repeat constructor) Takes.nil) (fun F' hle hr => copyA F' (L := L))) ?_
          rintro _ _ ⟨_, ⟨b3, rfl, rfl⟩, rfl⟩
          refine J.app ?_
          refine Sq.quiet (i := 2) rfl (Want.none rfl) rfl (ltN rfl) (QP.assign rfl rfl).read ?_
          refine Sq.nil ?_
          refine hk52 _ _ ?_
          refine Run.seq fun k53 hk53 => ?_
          refine Run.seq fun k54 hk54 => ?_
          refine Run.regionD (M := [0, 1, 3, 7, 15, 7, 39, 103, 231, 511, 1023, 2047]) (q := 3567) (r := 256) (by kernel_rfl) ?_
          refine Dw.pure (i := 0) rfl (by kernel_rfl) (Want.none rfl) rfl (ltN rfl) (QP.move rfl rfl) ?_
          refine Dw.pure (i := 1) rfl (by kernel_rfl) (Want.none rfl) rfl (ltN rfl) (QP.ptr_eq_nil rfl rfl rfl Try.underlying23) ?_
          refine Dw.pure (i := 2) rfl (by kernel_rfl) (Want.none rfl) rfl (ltN rfl) (QP.move rfl rfl) ?_
          refine Dw.pure (i := 3) rfl (by kernel_rfl) (Want.yes rfl rfl rfl rfl) rfl (ltN rfl) (QP.move rfl rfl) ?_
          refine Dw.pure (i := 5) rfl (by kernel_rfl) (Want.yes rfl rfl rfl rfl) rfl (ltN rfl) (QP.move rfl rfl) ?_
          refine Dw.pure (i := 6) rfl (by kernel_rfl) (Want.yes rfl rfl rfl rfl) rfl (ltN rfl) (QP.nilCheck rfl rfl) ?_
          refine Dw.pure (i := 7) rfl (by kernel_rfl) (Want.yes rfl rfl rfl rfl) rfl (ltN rfl) (QP.fieldAddr rfl rfl f52_0) ?_
          refine Dw.read (i := 8) rfl (by kernel_rfl) (Want.yes rfl rfl rfl rfl) rfl (ltN rfl) (QR.load1 (v := .slice _ L.length _) rfl rfl g44 (Ref04Queue.sub_l _)) ?_
          refine Dw.eff (i := 4) (by kernel_rfl) (by kernel_rfl) ?_
          refine One.mk (o := _) (l := [8]) rfl (by kernel_rfl) (Want.yes rfl rfl rfl rfl) rfl (ltN rfl) (EF.call rfl ce17 rfl (.cons (by repeat constructor) Takes.nil) (fun F' hle hr => listA F' (L := L))) (by kernel_rfl) ?_
          rintro v151 _ ⟨_, rfl, rfl⟩
          refine ⟨?_, ?_⟩
          ·rw [List.forall_mem_cons]
           refine ⟨?_, fun _ h => (by cases h)⟩
           ·refine Look.app ?_
            exact Look.mk rfl rfl rfl (QR.load1 (v := .slice _ L.length _) rfl rfl g44 (Ref04Queue.sub_l _))
          refine ?_
          refine J.app ?_
          refine Dw.slCase (v := v151) (xs := L) (by repeat constructor) (fun a151 c151 hv151 hh151 => ?_)
          subst hv151
          refine Dw.eff (i := 9) (by kernel_rfl) (by kernel_rfl) ?_
          refine One.mk (o := _) (l := []) rfl (by kernel_rfl) (Want.yes rfl rfl rfl rfl) rfl (ltN rfl) (EF.call rfl ce21 rfl (.cons (by repeat constructor) (.cons (by repeat constructor) Takes.nil)) (fun F' hle hr => sameD F' hh151 hhr (by omega) (by omega))) (by kernel_rfl) ?_
          rintro _ _ ⟨_, ⟨rfl, rfl⟩, rfl⟩
          refine ⟨fun _ h => (by cases h), ?_⟩
          refine J.app ?_
          refine J.boolT (decide_eq_true rfl) ?_
          refine Dw.pure (i := 10) rfl (by kernel_rfl) (Want.yes rfl rfl rfl rfl) rfl (ltN rfl) (QP.not rfl rfl) ?_
          refine Dw.pure (i := 11) rfl (by kernel_rfl) (Want.none rfl) rfl (ltN rfl) (QP.pick_f rfl rfl rfl) ?_
          refine Dw.nil (by kernel_rfl) ?_
          refine hk54 _ _ ?_
          refine Run.cond_f rfl ?_
          refine Run.skip ?_
          refine hk53 _ _ ?_
          refine Run.seq fun k55 hk55 => ?_
          refine Run.region ?_
          show Sq _ _ _ [0, 1] _ _ _ _
          refine Sq.quiet (i := 0) rfl (Want.none rfl) rfl (ltN rfl) (QP.move rfl rfl).read ?_
          refine Sq.eff (i := 1) rfl (Want.none rfl) rfl (ltN rfl) (EF.call rfl ce11 rfl (.cons (by repeat constructor) Takes.nil) (fun F' hle hr => setA F' (L := L) nOnly 0)) ?_
          rintro _ _ ⟨_, ⟨rfl, rfl⟩, rfl⟩
          refine J.app ?_
          refine Sq.nil ?_
          refine hk55 _ _ ?_
          refine Run.region ?_
          show Sq _ _ _ [0, 1] _ _ _ _
          refine Sq.quiet (i := 0) rfl (Want.none rfl) rfl (ltN rfl) (QP.move rfl rfl).read ?_
          refine Sq.eff (i := 1) rfl (Want.none rfl) rfl (ltN rfl) (EF.call rfl ce16 rfl (.cons (by repeat constructor) Takes.nil) (fun F' hle hr => popA F' (L := (setR L nOnly.val 0).2) 9223372036854775807)) ?_
          rintro _ _ ⟨_, ⟨rfl, rfl⟩, rfl⟩
          refine J.app ?_
          refine Sq.nil ?_
          exact J.envJ (J.keep (.cons (by repeat constructor) (.cons (by repeat constructor) (.cons (by repeat constructor) Takes.nil))) (hu26 (L) (ra) (rc) (by omega))) ⟨rfl, rfl, rfl, rfl, trivial⟩
         ·skip
          refine Sq.quiet (i := 1) rfl (Want.none rfl) rfl (ltN rfl) (QP.assign rfl rfl).read ?_
          refine Sq.nil ?_
          refine hk51 _ _ ?_
          refine Run.cond_f rfl ?_
          refine Run.skip ?_
          exact J.envJ (J.keep (.cons (by repeat constructor) (.cons (by repeat constructor) (.cons (by repeat constructor) Takes.nil))) (hu26 (L) (ra) (rc) (by omega))) ⟨rfl, rfl, rfl, rfl, trivial⟩
    ·skip
     refine Sq.nil ?_
     refine hk24 _ _ ?_
     refine Run.cond_f rfl ?_
     refine Run.exit rfl ?_
     refine hk20 _ _ ?_
     refine Run.seq fun k56 hk56 => ?_
     refine Run.region ?_
     show Sq _ _ _ [0, 1] _ _ _ _
     refine Sq.eff (i := 0) rfl (Want.none rfl) rfl (ltN rfl) (EF.call rfl ce9 rfl Takes.nil (fun F' hle hr => live_spec F')) ?_
     rintro _ _ ⟨_, ⟨rfl, rfl⟩, rfl⟩
     refine J.app ?_
     refine Sq.quiet (i := 1) rfl (Want.none rfl) rfl (ltN rfl) (QP.assign rfl rfl).read ?_
     refine Sq.nil ?_
     refine hk56 _ _ ?_
     refine Run.ret ?_
     exact J.ends (res_tmp rfl rfl) Takes.nil ⟨rfl, rfl⟩
end Slb
