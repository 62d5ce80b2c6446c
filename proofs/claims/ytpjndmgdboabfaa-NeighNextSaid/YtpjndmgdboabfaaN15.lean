/- N15: a part of the proof that a law of this package holds for every input; no condition. -/
import Derived.Test.YtpjndmgdboabfaaN13
namespace Slb
open Go Go.Proofs
set_option maxRecDepth 20000
theorem sameN (F : Fr) {a a2 : Option Addr} {c c2 : Nat} {xs ys : List Neighbour} (h1 : SlH a c xs) (h2 : SlH a2 c2 ys) (hl1 : xs.length ≤ 1000000) (hl2 : ys.length ≤ 1000000)  : Spec Try.prog 20 #[.slice a xs.length c, .slice a2 ys.length c2] [slA 54 34 Neighbour.enc (.slice a xs.length c) xs, slA 54 34 Neighbour.enc (.slice a2 ys.length c2) ys] F (fun v S => v = .bool (decide (xs = ys)) ∧ S = [slA 54 34 Neighbour.enc (.slice a xs.length c) xs, slA 54 34 Neighbour.enc (.slice a2 ys.length c2) ys]) := by
 refine Spec.intro (N := 26) (args := [.slice a xs.length c, .slice a2 ys.length c2]) Try.func20 rfl rfl (by simp) ?_
 refine Run.seq fun k1 hk1 => ?_
 refine Run.region ?_
 show Sq _ _ _ [0] _ _ _ _
 refine Sq.quiet (i := 0) rfl (Want.none rfl) rfl (ltN rfl) (QP.assign rfl rfl).read ?_
 refine Sq.nil ?_
 refine hk1 _ _ ?_
 refine Run.seq fun k2 hk2 => ?_
 refine Run.seq fun k3 hk3 => ?_
 refine Run.region ?_
 show Sq _ _ _ [0, 1, 2, 3, 4] _ _ _ _
 refine Sq.quiet (i := 0) rfl (Want.none rfl) rfl (ltN rfl) (QP.move rfl rfl).read ?_
 refine Sq.quiet (i := 1) rfl (Want.none rfl) rfl (ltN rfl) (QP.len rfl rfl rfl Try.underlying44).read ?_
 refine Sq.quiet (i := 2) rfl (Want.none rfl) rfl (ltN rfl) (QP.move rfl rfl).read ?_
 refine Sq.quiet (i := 3) rfl (Want.none rfl) rfl (ltN rfl) (QP.len rfl rfl rfl Try.underlying44).read ?_
 refine Sq.quiet (i := 4) rfl (Want.none rfl) rfl (ltN rfl) (QP.neq rfl rfl rfl).read ?_
 refine J.caseD (fun c10 => ?_) (fun c10 => ?_)
 ·skip
  refine Sq.nil ?_
  refine hk3 _ _ ?_
  refine Run.cond_t rfl ?_
  refine Run.seq fun k4 hk4 => ?_
  refine Run.region ?_
  show Sq _ _ _ [0] _ _ _ _
  refine Sq.quiet (i := 0) rfl (Want.none rfl) rfl (ltN rfl) (QP.assign rfl rfl).read ?_
  refine Sq.nil ?_
  refine hk4 _ _ ?_
  refine Run.ret ?_
  exact J.ends (res_tmp rfl rfl) (.cons (by repeat constructor) (.cons (by repeat constructor) Takes.nil)) ⟨by rw [decide_eq_false]; intro h; subst h; exact c10 rfl, rfl⟩
 ·skip
  refine Sq.nil ?_
  refine hk3 _ _ ?_
  refine Run.cond_f rfl ?_
  refine Run.skip ?_
  refine hk2 _ _ ?_
  refine Run.seq fun k5 hk5 => ?_
  refine Run.seq fun k6 hk6 => ?_
  refine Run.region ?_
  show Sq _ _ _ [0] _ _ _ _
  refine Sq.quiet (i := 0) rfl (Want.none rfl) rfl (ltN rfl) (QP.assign rfl rfl).read ?_
  refine Sq.nil ?_
  refine hk6 _ _ ?_
  refine Run.block ?_
  refine Run.loop1 (fun (i : Nat) => i ≤ xs.length ∧ xs.length = ys.length ∧ xs.take i = ys.take i) (fun i => .cons 0 (.slice a xs.length c) (.cons 1 (.slice a2 ys.length c2) (.cons 5 (.int .i64 i) (.nil)))) (fun i => [slA 54 34 Neighbour.enc (.slice a xs.length c) xs, slA 54 34 Neighbour.enc (.slice a2 ys.length c2) ys]) (fun i => xs.length - i) (0) (⟨Nat.zero_le _, by omega, rfl⟩) ?_ ?_
  ·exact fun _ j => J.envJ (J.keep (.cons (by repeat constructor) (.cons (by repeat constructor) Takes.nil)) j) ⟨rfl, rfl, rfl, trivial⟩
  rintro i ⟨hile, hlen, heq⟩ kl7 hl7
  refine Run.seq fun k8 hk8 => ?_
  refine Run.seq fun k9 hk9 => ?_
  refine Run.region ?_
  show Sq _ _ _ [0, 1, 2, 3] _ _ _ _
  refine Sq.quiet (i := 0) rfl (Want.none rfl) rfl (ltN rfl) (QP.move rfl rfl).read ?_
  refine Sq.quiet (i := 1) rfl (Want.none rfl) rfl (ltN rfl) (QP.move rfl rfl).read ?_
  refine Sq.quiet (i := 2) rfl (Want.none rfl) rfl (ltN rfl) (QP.len rfl rfl rfl Try.underlying44).read ?_
  refine Sq.quiet (i := 3) rfl (Want.none rfl) rfl (ltN rfl) (QP.lss rfl rfl rfl).read ?_
  refine J.caseD (fun c14 => ?_) (fun c14 => ?_)
  ·skip
   refine Sq.nil ?_
   refine hk9 _ _ ?_
   refine Run.cond_t rfl ?_
   refine Run.skip ?_
   refine hk8 _ _ ?_
   refine Run.seq fun k10 hk10 => ?_
   refine Run.block ?_
   refine Run.seq fun k11 hk11 => ?_
   refine Run.regionD (M := [0, 0, 3, 7, 0, 0, 48, 112, 255]) (q := 511) (r := 136) (by kernel_rfl) ?_
   obtain ⟨x, hx⟩ : ∃ x, xs[i]? = some x := ⟨_, List.getElem?_eq_getElem (by omega)⟩
   obtain ⟨y, hy⟩ : ∃ y, ys[i]? = some y := ⟨_, List.getElem?_eq_getElem (by omega)⟩
   obtain ⟨b0, o0, rfl⟩ := h1.get (by omega)
   obtain ⟨b1, o1, rfl⟩ := h2.get (by omega)
   refine Dw.pure (i := 0) rfl (by kernel_rfl) (Want.none rfl) rfl (ltN rfl) (QP.move rfl rfl) ?_
   refine Dw.pure (i := 1) rfl (by kernel_rfl) (Want.none rfl) rfl (ltN rfl) (QP.move rfl rfl) ?_
   refine Dw.pure (i := 2) rfl (by kernel_rfl) (Want.none rfl) rfl (ltN rfl) (QP.indexAddr rfl rfl rfl Try.underlying44 z54 (by first | omega | (simp <;> omega)) (by first | omega | (simp <;> omega))) ?_
   refine Dw.read (i := 3) rfl (by kernel_rfl) (Want.none rfl) rfl (ltN rfl) (QR.loadSl rfl rfl g54 Neighbour.enc_len (SlAt.own Neighbour.enc_len (by repeat constructor)) hx) ?_
   refine Dw.pure (i := 4) rfl (by kernel_rfl) (Want.none rfl) rfl (ltN rfl) (QP.move rfl rfl) ?_
   refine Dw.pure (i := 5) rfl (by kernel_rfl) (Want.none rfl) rfl (ltN rfl) (QP.move rfl rfl) ?_
   refine Dw.pure (i := 6) rfl (by kernel_rfl) (Want.none rfl) rfl (ltN rfl) (QP.indexAddr rfl rfl rfl Try.underlying44 z54 (by first | omega | (simp <;> omega)) (by first | omega | (simp <;> omega))) ?_
   refine Dw.read (i := 7) rfl (by kernel_rfl) (Want.none rfl) rfl (ltN rfl) (QR.loadSl rfl rfl g54 Neighbour.enc_len (SlAt.own Neighbour.enc_len (by repeat constructor)) hy) ?_
   refine Dw.pure (i := 8) rfl (by kernel_rfl) (Want.none rfl) rfl (ltN rfl) (QP.neq_agg eq54 rfl rfl rfl) ?_
   refine J.caseD (fun c25 => ?_) (fun c25 => ?_)
   ·skip
    refine Dw.nil (by kernel_rfl) ?_
    refine hk11 _ _ ?_
    refine Run.cond_t rfl ?_
    refine Run.seq fun k12 hk12 => ?_
    refine Run.region ?_
    show Sq _ _ _ [0] _ _ _ _
    refine Sq.quiet (i := 0) rfl (Want.none rfl) rfl (ltN rfl) (QP.assign rfl rfl).read ?_
    refine Sq.nil ?_
    refine hk12 _ _ ?_
    refine Run.ret ?_
    exact J.ends (res_tmp rfl rfl) (.cons (by repeat constructor) (.cons (by repeat constructor) Takes.nil)) ⟨by rw [decide_eq_false]; intro h; subst h; rw [hx] at hy; cases hy; exact c25 rfl, rfl⟩
   ·skip
    refine Dw.nil (by kernel_rfl) ?_
    refine hk11 _ _ ?_
    refine Run.cond_f rfl ?_
    refine Run.skip ?_
    refine hk10 _ _ ?_
    refine Run.region ?_
    show Sq _ _ _ [0, 1, 2] _ _ _ _
    refine Sq.quiet (i := 0) rfl (Want.none rfl) rfl (ltN rfl) (QP.move rfl rfl).read ?_
    refine Sq.quiet (i := 1) rfl (Want.none rfl) rfl (ltN rfl) (QP.add64 rfl rfl rfl (by first | omega | (simp <;> omega)) (by first | omega | (simp <;> omega))).read ?_
    refine Sq.quiet (i := 2) rfl (Want.none rfl) rfl (ltN rfl) (QP.assign rfl rfl).read ?_
    refine Sq.nil ?_
    exact J.envJ (J.keep (.cons (by repeat constructor) (.cons (by repeat constructor) Takes.nil)) (hl7 (i + 1) (⟨by omega, hlen, by rw [List.take_add_one, List.take_add_one, heq, hx, hy, show x = y by simpa using c25]⟩) (by omega))) ⟨rfl, rfl, rfl, trivial⟩
  ·skip
   refine Sq.nil ?_
   refine hk9 _ _ ?_
   refine Run.cond_f rfl ?_
   refine Run.exit rfl ?_
   refine hk5 _ _ ?_
   refine Run.seq fun k13 hk13 => ?_
   refine Run.region ?_
   show Sq _ _ _ [0] _ _ _ _
   refine Sq.quiet (i := 0) rfl (Want.none rfl) rfl (ltN rfl) (QP.assign rfl rfl).read ?_
   refine Sq.nil ?_
   refine hk13 _ _ ?_
   refine Run.ret ?_
   exact J.ends (res_tmp rfl rfl) (.cons (by repeat constructor) (.cons (by repeat constructor) Takes.nil)) ⟨by rw [decide_eq_true]; rw [List.take_of_length_le (by omega), List.take_of_length_le (by omega)] at heq; exact heq, rfl⟩

/-- What the acts' times hold. -/
def Holds (F : Fr) (xs : List Law13Act) (O : Law13Act → List Int) : Prop := ∀ x ∈ xs, x.h.WF ∧ x.h.stamps.n = (O x).length ∧ ArgSl F x.h.stamps.a 1 (fun n => [Value.int .u32 n]) (O x)
theorem Holds.of {F : Fr} {xs : List Law13Act} (h : ∀ x ∈ xs, ok41 F x) : ∃ O, Holds F xs O := by
  classical
  refine ⟨fun x => if hx : x ∈ xs then Classical.choose (h x hx).2.2 else [], fun x hx => ?_⟩
  simp only [dif_pos hx]
  have := Classical.choose_spec (h x hx).2.2
  exact ⟨(h x hx).2.1, this.1, this.2.2.1⟩
theorem Holds.mono {F F' : Fr} {xs : List Law13Act} {O : Law13Act → List Int} (h : Holds F xs O) (hle : PH.le F.h F'.h) : Holds F' xs O := fun x hx => by
  obtain ⟨a, b, c⟩ := h x hx
  exact ⟨a, b, c.mono hle⟩
theorem ord_ex {M : TabN} {L L2 : List Neighbour} (h : OrdN M L) (h2 : OrdN M L2) : L2 = L := h.uniq keyCmpN h2.perm (h2.sort.imp fun {a b} hab hba => by
  have := (keyCmpN.neg a b).1 hab
  omega)
theorem ord_uniq {M : TabN} {L ys : List Neighbour} (h : OrdN M L) (hp : ys.Perm (M.map (·.2))) (hs : ys.Pairwise fun a b => cmpNei a b < 0) : ys = L := h.uniq keyCmpN hp (hs.imp fun {a b} hab hba => by
  have := (keyCmpN.neg a b).1 hab
  omega)
def keepP (q : Int) (s : Neighbour) : Bool := decide (s.if_.val ≠ q)
theorem drop_rows (q : Int) (M : TabN) : (dropM [q] M).map (·.2) = (M.map (·.2)).filter (keepP q) := by
  unfold dropM
  induction M with
  | nil => rfl
  | cons e M ih =>
    rw [List.filterMap_cons, List.map_cons, List.filter_cons]
    unfold dropG keepP
    by_cases h : e.2.if_.val = q
    · rw [if_pos (by simp [h])]
      simp only [Option.map_none, h, ne_eq, not_true_eq_false, decide_false, Bool.false_eq_true, if_false]
      exact ih
    · rw [if_neg (by simp [h])]
      simp only [Option.map_some, List.map_cons, ne_eq, h, not_false_eq_true, decide_true, if_true]
      exact congrArg (List.cons e.2) ih
theorem drop_list {q : Int} {M : TabN} {L L2 : List Neighbour} (h : OrdN M L) (h2 : OrdN (dropM [q] M) L2) : L2 = L.filter (keepP q) :=
  (ord_uniq h2 (by rw [drop_rows]; exact h.perm.filter _) (h.sort.filter _)).symm
theorem drop_count {q : Int} (L : List Neighbour) : ((L.filter fun s => decide (s.if_.val ∈ [q])).length : Int) = (L.length : Int) - ((L.filter (keepP q)).length : Int) := by
  have : (L.filter fun s => decide (s.if_.val ∈ [q])).length + (L.filter (keepP q)).length = L.length := by
    induction L with
    | nil => rfl
    | cons s L ih =>
      rw [List.filter_cons, List.filter_cons]
      unfold keepP
      by_cases h : s.if_.val = q
      · simp only [h, List.mem_singleton, decide_true, if_true, ne_eq, not_true_eq_false, decide_false, Bool.false_eq_true, if_false, List.length_cons]
        unfold keepP at ih
        simp only [List.mem_singleton, ne_eq] at ih
        omega
      · simp only [h, List.mem_singleton, decide_false, Bool.false_eq_true, if_false, ne_eq, not_false_eq_true, decide_true, if_true, List.length_cons]
        unfold keepP at ih
        simp only [List.mem_singleton, ne_eq] at ih
        omega
  omega
theorem drop_none {q : Int} {L : List Neighbour} {M : TabN} (h : OrdN (dropM [q] M) L) : (L.filter fun s => decide (s.if_.val ∈ [q])).length = 0 := by
  rw [List.length_eq_zero_iff, List.filter_eq_nil_iff]
  intro s hs
  obtain ⟨e, he, rfl⟩ := List.mem_map.1 (h.perm.subset hs)
  simpa using (mem_drop he).2

set_option maxHeartbeats 1600000 in
theorem law_drops (F : Fr) {a : Option Addr} {c : Nat} {ifs : List IfConf} (hi0 : ifs.length ≤ 9223372036854775807) (ha : ArgSl F a 43 IfConf.enc ifs) (hcap : ifs.length ≤ c) {a2 : Option Addr} {c2 : Nat} {xs : List Law13Act} (hx0 : xs.length ≤ 9223372036854775807) (ha2 : ArgSl F a2 87 Law13Act.enc xs) (hw2 : ∀ x ∈ xs, ok41 F x) (q : Int)  : Spec Try.prog 6 #[.slice a ifs.length c, .slice a2 xs.length c2, .int .i64 q] [] F (fun v S => v = .bool true ∧ S = []) := by
 obtain ⟨O, hO⟩ := Holds.of hw2
 refine Spec.intro (N := 107) (args := [.slice a ifs.length c, .slice a2 xs.length c2, .int .i64 q]) Try.func6 rfl rfl (by simp) ?_
 refine Run.seq fun k1 hk1 => ?_
 refine Run.region ?_
 show Sq _ _ _ [0] _ _ _ _
 refine Sq.quiet (i := 0) rfl (Want.none rfl) rfl (ltN rfl) (QP.assign rfl rfl).read ?_
 refine Sq.nil ?_
 refine hk1 _ _ ?_
 refine Run.seq fun k2 hk2 => ?_
 refine Run.seq fun k3 hk3 => ?_
 refine Run.region ?_
 show Sq _ _ _ [0, 1, 2, 3] _ _ _ _
 refine Sq.quiet (i := 0) rfl (Want.none rfl) rfl (ltN rfl) (QP.move rfl rfl).read ?_
 refine Sq.quiet (i := 1) rfl (Want.none rfl) rfl (ltN rfl) (QP.move rfl rfl).read ?_
 refine Sq.eff (i := 2) rfl (Want.none rfl) rfl (ltN rfl) (EF.call rfl ce8 rfl Takes.nil (fun F' hle hr => right_spec F' hi0 (ha.mono hle) hcap hx0 (ha2.mono hle))) ?_
 rintro _ _ ⟨_, ⟨r, rfl, hright, rfl⟩, rfl⟩
 refine J.app ?_
 refine J.caseB (fun c15 => ?_) (fun c15 => ?_)
 ·skip
  refine Sq.quiet (i := 3) rfl (Want.none rfl) rfl (ltN rfl) (QP.not rfl rfl).read ?_
  refine Sq.nil ?_
  refine hk3 _ _ ?_
  refine Run.cond_f rfl ?_
  refine Run.skip ?_
  refine hk2 _ _ ?_
  refine Run.seq fun k4 hk4 => ?_
  refine Run.region ?_
  show Sq _ _ _ [0, 1, 2] _ _ _ _
  obtain ⟨hi8, hifs, hx120, hgap⟩ := hright c15
  refine Sq.quiet (i := 0) rfl (Want.none rfl) rfl (ltN rfl) (QP.move rfl rfl).read ?_
  refine Sq.eff (i := 1) rfl (Want.none rfl) rfl (ltN rfl) (EF.call rfl ce10 rfl Takes.nil (fun F' hle hr => newA F' 120 (xs := ifs) (by omega) (ha.mono hle))) ?_
  rintro _ _ ⟨_, ⟨tb, rfl, rfl⟩, rfl⟩
  refine J.app ?_
  refine Sq.quiet (i := 2) rfl (Want.none rfl) rfl (ltN rfl) (QP.assign rfl rfl).read ?_
  refine Sq.nil ?_
  refine hk4 _ _ ?_
  refine Run.seq fun k5 hk5 => ?_
  refine Run.seq fun k6 hk6 => ?_
  refine Run.region ?_
  show Sq _ _ _ [0, 1] _ _ _ _
  refine Sq.quiet (i := 0) rfl (Want.none rfl) rfl (ltN rfl) (QP.move rfl rfl).read ?_
  refine Sq.quiet (i := 1) rfl (Want.none rfl) rfl (ltN rfl) (QP.ptr_eq_nil rfl rfl rfl Try.underlying26).read ?_
  refine Sq.nil ?_
  refine hk6 _ _ ?_
  refine Run.cond_f rfl ?_
  refine Run.skip ?_
  refine hk5 _ _ ?_
  refine Run.seq fun k7 hk7 => ?_
  refine Run.region ?_
  show Sq _ _ _ [0] _ _ _ _
  refine Sq.quiet (i := 0) rfl (Want.none rfl) rfl (ltN rfl) (QP.assign rfl rfl).read ?_
  refine Sq.nil ?_
  refine hk7 _ _ ?_
  refine Run.seq fun k8 hk8 => ?_
  refine Run.seq fun k9 hk9 => ?_
  refine Run.region ?_
  show Sq _ _ _ [0] _ _ _ _
  refine Sq.quiet (i := 0) rfl (Want.none rfl) rfl (ltN rfl) (QP.assign rfl rfl).read ?_
  refine Sq.nil ?_
  refine hk9 _ _ ?_
  refine Run.block ?_
  refine Run.loop3 (fun (i : Nat) (now : Int) (M : TabN) => i ≤ xs.length ∧ 0 ≤ now ∧ now ≤ i * 1073741824 ∧ GoodN ifs.length M ∧ M.length ≤ i) (fun i now M => .cons 0 (.slice a ifs.length c) (.cons 1 (.slice a2 xs.length c2) (.cons 2 (.int .i64 q) (.cons 7 (fp tb) (.cons 8 (.int .i64 now) (.cons 9 (.int .i64 i) (.nil))))))) (fun i now M => [NA tb 120 ifs M]) (fun i now M => xs.length - i) (0) (0) ([]) (⟨Nat.zero_le _, Int.le_refl _, by omega, GoodN.nil _, Nat.le_refl _⟩) ?_ ?_
  ·exact fun _ j => J.envJ (J.keep (.cons (by repeat constructor) Takes.nil) j) ⟨rfl, rfl, rfl, rfl, rfl, rfl, trivial⟩
  rintro i now M ⟨hile, hn0, hn1, hgood, hML⟩ kl10 hl10
  refine Run.seq fun k11 hk11 => ?_
  refine Run.seq fun k12 hk12 => ?_
  refine Run.region ?_
  show Sq _ _ _ [0, 1, 2, 3] _ _ _ _
  refine Sq.quiet (i := 0) rfl (Want.none rfl) rfl (ltN rfl) (QP.move rfl rfl).read ?_
  refine Sq.quiet (i := 1) rfl (Want.none rfl) rfl (ltN rfl) (QP.move rfl rfl).read ?_
  refine Sq.quiet (i := 2) rfl (Want.none rfl) rfl (ltN rfl) (QP.len rfl rfl rfl Try.underlying23).read ?_
  refine Sq.quiet (i := 3) rfl (Want.none rfl) rfl (ltN rfl) (QP.lss rfl rfl rfl).read ?_
  refine J.caseD (fun c25 => ?_) (fun c25 => ?_)
  ·skip
   refine Sq.nil ?_
   refine hk12 _ _ ?_
   refine Run.cond_t rfl ?_
   refine Run.skip ?_
   refine hk11 _ _ ?_
   refine Run.seq fun k13 hk13 => ?_
   refine Run.block ?_
   refine Run.seq fun k14 hk14 => ?_
   refine Run.region ?_
   show Sq _ _ _ [0, 1, 2, 3, 4, 5, 6, 7] _ _ _ _
   obtain ⟨x, hj⟩ : ∃ x, xs[i]? = some x := ⟨_, List.getElem?_eq_getElem (by omega)⟩
   obtain ⟨b1, o1, hax, hs2⟩ := ha2.get (by omega)
   have hxm := List.mem_of_getElem? hj
   obtain ⟨hg0, hg1, hg2⟩ := hgap x hxm
   obtain ⟨hxw, hxn, hxa⟩ := hO x hxm
   subst hax
   refine Sq.quiet (i := 0) rfl (Want.none rfl) rfl (ltN rfl) (QP.move rfl rfl).read ?_
   refine Sq.quiet (i := 1) rfl (Want.none rfl) rfl (ltN rfl) (QP.move rfl rfl).read ?_
   refine Sq.quiet (i := 2) rfl (Want.none rfl) rfl (ltN rfl) (QP.move rfl rfl).read ?_
   refine Sq.quiet (i := 3) rfl (Want.none rfl) rfl (ltN rfl) (QP.indexAddr rfl rfl rfl Try.underlying23 z41 (by first | omega | (simp <;> omega)) (by first | omega | (simp <;> omega))).read ?_
   refine Sq.quiet (i := 4) rfl (Want.none rfl) rfl (ltN rfl) (QP.fieldAddr rfl rfl f41_1).read ?_
   refine Sq.quiet (i := 5) rfl (Want.none rfl) rfl (ltN rfl) (QR.loadSlF1 rfl rfl g3 Law13Act.enc_len (hs2 _) hj (Law13Act.sub_gap _)) ?_
   refine Sq.quiet (i := 6) rfl (Want.none rfl) rfl (ltN rfl) (QP.add64 rfl rfl rfl (by first | omega | (simp <;> omega)) (by first | omega | (simp <;> omega))).read ?_
   refine Sq.quiet (i := 7) rfl (Want.none rfl) rfl (ltN rfl) (QP.assign rfl rfl).read ?_
   refine Sq.nil ?_
   refine hk14 _ _ ?_
   refine Run.seq fun k15 hk15 => ?_
   refine Run.region ?_
   show Sq _ _ _ [0, 1, 2, 3, 4, 5] _ _ _ _
   refine Sq.quiet (i := 0) rfl (Want.none rfl) rfl (ltN rfl) (QP.move rfl rfl).read ?_
   refine Sq.quiet (i := 1) rfl (Want.none rfl) rfl (ltN rfl) (QP.move rfl rfl).read ?_
   refine Sq.quiet (i := 2) rfl (Want.none rfl) rfl (ltN rfl) (QP.indexAddr rfl rfl rfl Try.underlying23 z41 (by first | omega | (simp <;> omega)) (by first | omega | (simp <;> omega))).read ?_
   refine Sq.quiet (i := 3) rfl (Want.none rfl) rfl (ltN rfl) (QP.fieldAddr rfl rfl f41_0).read ?_
   refine Sq.quiet (i := 4) rfl (Want.none rfl) rfl (ltN rfl) (QR.loadSlF1 rfl rfl g3 Law13Act.enc_len (hs2 _) hj (Law13Act.sub_kind _)) ?_
   refine Sq.quiet (i := 5) rfl (Want.none rfl) rfl (ltN rfl) (QP.eql rfl rfl rfl).read ?_
   refine J.caseD (fun c40 => ?_) (fun c40 => ?_)
   ·skip
    refine Sq.nil ?_
    refine hk15 _ _ ?_
    refine Run.cond_t rfl ?_
    refine Run.regionD (M := [0, 0, 0, 0, 12, 28, 60, 0, 0, 384, 896, 1920, 0, 0, 12288, 28672, 61440, 131071]) (q := 131071) (r := 67648) (by kernel_rfl) ?_
    refine Dw.pure (i := 0) rfl (by kernel_rfl) (Want.none rfl) rfl (ltN rfl) (QP.move rfl rfl) ?_
    refine Dw.pure (i := 1) rfl (by kernel_rfl) (Want.none rfl) rfl (ltN rfl) (QP.move rfl rfl) ?_
    refine Dw.pure (i := 2) rfl (by kernel_rfl) (Want.none rfl) rfl (ltN rfl) (QP.move rfl rfl) ?_
    refine Dw.pure (i := 3) rfl (by kernel_rfl) (Want.none rfl) rfl (ltN rfl) (QP.move rfl rfl) ?_
    refine Dw.pure (i := 4) rfl (by kernel_rfl) (Want.none rfl) rfl (ltN rfl) (QP.indexAddr rfl rfl rfl Try.underlying23 z41 (by first | omega | (simp <;> omega)) (by first | omega | (simp <;> omega))) ?_
    refine Dw.pure (i := 5) rfl (by kernel_rfl) (Want.none rfl) rfl (ltN rfl) (QP.fieldAddr rfl rfl f41_2) ?_
    refine Dw.read (i := 6) rfl (by kernel_rfl) (Want.none rfl) rfl (ltN rfl) (QR.loadSlF1 rfl rfl g3 Law13Act.enc_len (hs2 _) hj (Law13Act.sub_if_ _)) ?_
    refine Dw.pure (i := 7) rfl (by kernel_rfl) (Want.none rfl) rfl (ltN rfl) (QP.move rfl rfl) ?_
    refine Dw.pure (i := 8) rfl (by kernel_rfl) (Want.none rfl) rfl (ltN rfl) (QP.move rfl rfl) ?_
    refine Dw.pure (i := 9) rfl (by kernel_rfl) (Want.none rfl) rfl (ltN rfl) (QP.indexAddr rfl rfl rfl Try.underlying23 z41 (by first | omega | (simp <;> omega)) (by first | omega | (simp <;> omega))) ?_
    refine Dw.pure (i := 10) rfl (by kernel_rfl) (Want.none rfl) rfl (ltN rfl) (QP.fieldAddr rfl rfl f41_3) ?_
    refine Dw.read (i := 11) rfl (by kernel_rfl) (Want.none rfl) rfl (ltN rfl) (QR.loadSlF rfl rfl g29 Law13Act.enc_len (hs2 _) hj (Law13Act.sub_from_ _)) ?_
    refine Dw.pure (i := 12) rfl (by kernel_rfl) (Want.none rfl) rfl (ltN rfl) (QP.move rfl rfl) ?_
    refine Dw.pure (i := 13) rfl (by kernel_rfl) (Want.none rfl) rfl (ltN rfl) (QP.move rfl rfl) ?_
    refine Dw.pure (i := 14) rfl (by kernel_rfl) (Want.none rfl) rfl (ltN rfl) (QP.indexAddr rfl rfl rfl Try.underlying23 z41 (by first | omega | (simp <;> omega)) (by first | omega | (simp <;> omega))) ?_
    refine Dw.pure (i := 15) rfl (by kernel_rfl) (Want.none rfl) rfl (ltN rfl) (QP.fieldAddr rfl rfl f41_4) ?_
    refine Dw.read (i := 16) rfl (by kernel_rfl) (Want.none rfl) rfl (ltN rfl) (QR.loadSlF rfl rfl g39 Law13Act.enc_len (hs2 _) hj (Law13Act.sub_h _)) ?_
    refine Dw.eff (i := 17) (by kernel_rfl) (by kernel_rfl) ?_
    refine One.mk (o := _) (l := []) rfl (by kernel_rfl) (Want.none rfl) rfl (ltN rfl) (EF.call rfl ce11 rfl (.cons (by repeat constructor) Takes.nil) (fun F' hle hr => helloA F' (most := 120) hgood (now + x.gap) (by omega) (by omega) x.if_ x.from_ x.h hxw (O x) hxn (by omega) (hxa.mono hle))) (by kernel_rfl) ?_
    rintro _ _ ⟨_, ⟨rfl, rfl⟩, rfl⟩
    refine ⟨fun _ h => (by cases h), ?_⟩
    refine J.app ?_
    refine Dw.nil (by kernel_rfl) ?_
    refine hk13 _ _ ?_
    refine Run.region ?_
    show Sq _ _ _ [0, 1, 2] _ _ _ _
    refine Sq.quiet (i := 0) rfl (Want.none rfl) rfl (ltN rfl) (QP.move rfl rfl).read ?_
    refine Sq.quiet (i := 1) rfl (Want.none rfl) rfl (ltN rfl) (QP.add64 rfl rfl rfl (by first | omega | (simp <;> omega)) (by first | omega | (simp <;> omega))).read ?_
    refine Sq.quiet (i := 2) rfl (Want.none rfl) rfl (ltN rfl) (QP.assign rfl rfl).read ?_
    refine Sq.nil ?_
    exact J.envJ (J.keep (.cons (by repeat constructor) Takes.nil) (hl10 (i + 1) (now + x.gap) ((helloF ifs.length 120 M (now + x.gap) x.if_ x.from_ x.h (O x)).2) (⟨by omega, by omega, by omega, good_hello hgood (by omega) _ _ hxw _, Nat.le_trans (hello_len _ _ _ _ _ _ _ _) (by omega)⟩) (by omega))) ⟨rfl, rfl, rfl, rfl, rfl, rfl, trivial⟩
   ·skip
    refine Sq.nil ?_
    refine hk15 _ _ ?_
    refine Run.cond_f rfl ?_
    refine Run.skip ?_
    refine hk13 _ _ ?_
    refine Run.region ?_
    show Sq _ _ _ [0, 1, 2] _ _ _ _
    refine Sq.quiet (i := 0) rfl (Want.none rfl) rfl (ltN rfl) (QP.move rfl rfl).read ?_
    refine Sq.quiet (i := 1) rfl (Want.none rfl) rfl (ltN rfl) (QP.add64 rfl rfl rfl (by first | omega | (simp <;> omega)) (by first | omega | (simp <;> omega))).read ?_
    refine Sq.quiet (i := 2) rfl (Want.none rfl) rfl (ltN rfl) (QP.assign rfl rfl).read ?_
    refine Sq.nil ?_
    exact J.envJ (J.keep (.cons (by repeat constructor) Takes.nil) (hl10 (i + 1) (now + x.gap) (M) (⟨by omega, by omega, by omega, hgood, by omega⟩) (by omega))) ⟨rfl, rfl, rfl, rfl, rfl, rfl, trivial⟩
  ·skip
   refine Sq.nil ?_
   refine hk12 _ _ ?_
   refine Run.cond_f rfl ?_
   refine Run.exit rfl ?_
   refine hk8 _ _ ?_
   refine Run.seq fun k16 hk16 => ?_
   refine Run.region ?_
   show Sq _ _ _ [0] _ _ _ _
   refine J.addSl 54 34 Neighbour.enc ?_
   refine Sq.quiet (i := 0) rfl (Want.none rfl) rfl (ltN rfl) (QP.assign rfl rfl).read ?_
   refine Sq.nil ?_
   refine hk16 _ _ ?_
   refine Run.seq fun k17 hk17 => ?_
   refine Run.region ?_
   show Sq _ _ _ [0, 1, 2] _ _ _ _
   have hMn : M.length ≤ 120 := by omega
   have hDl := dropM_len [q] M
   refine Sq.quiet (i := 0) rfl (Want.none rfl) rfl (ltN rfl) (QP.move rfl rfl).read ?_
   refine Sq.eff (i := 1) rfl (Want.none rfl) rfl (ltN rfl) (EF.call rfl ce13 rfl (.cons (by repeat constructor) Takes.nil) (fun F' hle hr => listA F' (M := M) hgood (by omega))) ?_
   rintro v60 _ ⟨_, ⟨L60, hL60, rfl⟩, rfl⟩
   refine J.app ?_
   refine Sq.slCase (v := v60) (xs := L60) (by repeat constructor) (fun a60 c60 hv60 hh60 => ?_)
   subst hv60
   have hLl : L60.length ≤ 120 := by rw [hL60.length]; exact hMn
   refine Sq.quiet (i := 2) rfl (Want.none rfl) rfl (ltN rfl) (QP.assign rfl rfl).read ?_
   refine Sq.nil ?_
   refine hk17 _ _ ?_
   refine Run.seq fun k18 hk18 => ?_
   refine Run.seq fun k19 hk19 => ?_
   refine Run.region ?_
   show Sq _ _ _ [0] _ _ _ _
   refine Sq.quiet (i := 0) rfl (Want.none rfl) rfl (ltN rfl) (QP.assign rfl rfl).read ?_
   refine Sq.nil ?_
   refine hk19 _ _ ?_
   refine Run.block ?_
   refine Run.loop2 (fun (i : Nat) (va : Value) => i ≤ L60.length) (fun i va => .cons 2 (.int .i64 q) (.cons 7 (fp tb) (.cons 10 (va) (.cons 11 (.slice a60 L60.length c60) (.cons 12 (.int .i64 i) (.nil)))))) (fun i va => [NA tb 120 ifs M, slA 54 34 Neighbour.enc (.slice a60 L60.length c60) L60, slA 54 34 Neighbour.enc va ((L60.take i).filter (keepP q))]) (fun i va => L60.length - i) (0) (.slice none 0 0) (Nat.zero_le _) ?_ ?_
   ·exact fun _ j => J.envJ (J.keep (.cons (by repeat constructor) (.cons (by repeat constructor) (.cons (by repeat constructor) Takes.nil))) j) ⟨rfl, rfl, rfl, rfl, rfl, trivial⟩
   rintro i va hile2 kl20 hl20
   refine Run.seq fun k21 hk21 => ?_
   refine Run.seq fun k22 hk22 => ?_
   refine Run.region ?_
   show Sq _ _ _ [0, 1, 2, 3] _ _ _ _
   refine Sq.quiet (i := 0) rfl (Want.none rfl) rfl (ltN rfl) (QP.move rfl rfl).read ?_
   refine Sq.quiet (i := 1) rfl (Want.none rfl) rfl (ltN rfl) (QP.move rfl rfl).read ?_
   refine Sq.quiet (i := 2) rfl (Want.none rfl) rfl (ltN rfl) (QP.len rfl rfl rfl Try.underlying44).read ?_
   refine Sq.quiet (i := 3) rfl (Want.none rfl) rfl (ltN rfl) (QP.lss rfl rfl rfl).read ?_
   refine J.caseD (fun c64 => ?_) (fun c64 => ?_)
   ·skip
    refine Sq.nil ?_
    refine hk22 _ _ ?_
    refine Run.cond_t rfl ?_
    refine Run.skip ?_
    refine hk21 _ _ ?_
    refine Run.seq fun k23 hk23 => ?_
    refine Run.block ?_
    refine Run.seq fun k24 hk24 => ?_
    refine Run.region ?_
    show Sq _ _ _ [0, 1, 2, 3, 4, 5, 6] _ _ _ _
    obtain ⟨y, hy⟩ : ∃ y, L60[i]? = some y := ⟨_, List.getElem?_eq_getElem (by omega)⟩
    obtain ⟨b2, o2, rfl⟩ := hh60.get (by omega)
    have hfl := List.length_filter_le (keepP q) (L60.take i)
    have htl := List.length_take_le i L60
    refine Sq.quiet (i := 0) rfl (Want.none rfl) rfl (ltN rfl) (QP.move rfl rfl).read ?_
    refine Sq.quiet (i := 1) rfl (Want.none rfl) rfl (ltN rfl) (QP.move rfl rfl).read ?_
    refine Sq.quiet (i := 2) rfl (Want.none rfl) rfl (ltN rfl) (QP.indexAddr rfl rfl rfl Try.underlying44 z54 (by first | omega | (simp <;> omega)) (by first | omega | (simp <;> omega))).read ?_
    refine Sq.quiet (i := 3) rfl (Want.none rfl) rfl (ltN rfl) (QP.fieldAddr rfl rfl f54_0).read ?_
    refine Sq.quiet (i := 4) rfl (Want.none rfl) rfl (ltN rfl) (QR.loadSlF1 rfl rfl g3 Neighbour.enc_len (SlAt.own Neighbour.enc_len (by repeat constructor)) hy (Neighbour.sub_if_ _)) ?_
    refine Sq.quiet (i := 5) rfl (Want.none rfl) rfl (ltN rfl) (QP.move rfl rfl).read ?_
    refine Sq.quiet (i := 6) rfl (Want.none rfl) rfl (ltN rfl) (QP.neq rfl rfl rfl).read ?_
    refine J.caseD (fun c73 => ?_) (fun c73 => ?_)
    ·skip
     refine Sq.nil ?_
     refine hk24 _ _ ?_
     refine Run.cond_t rfl ?_
     refine Run.region ?_
     show Sq _ _ _ [0, 1, 2, 3, 4, 5, 6, 7] _ _ _ _
     refine Sq.quiet (i := 0) rfl (Want.none rfl) rfl (ltN rfl) (QP.move rfl rfl).read ?_
     refine Sq.quiet (i := 1) rfl (Want.none rfl) rfl (ltN rfl) (QP.move rfl rfl).read ?_
     refine Sq.quiet (i := 2) rfl (Want.none rfl) rfl (ltN rfl) (QP.move rfl rfl).read ?_
     refine Sq.quiet (i := 3) rfl (Want.none rfl) rfl (ltN rfl) (QP.indexAddr rfl rfl rfl Try.underlying44 z54 (by first | omega | (simp <;> omega)) (by first | omega | (simp <;> omega))).read ?_
     refine Sq.quiet (i := 4) rfl (Want.none rfl) rfl (ltN rfl) (QR.loadSl rfl rfl g54 Neighbour.enc_len (SlAt.own Neighbour.enc_len (by repeat constructor)) hy) ?_
     refine Sq.eff (i := 5) rfl (Want.none rfl) rfl (ltN rfl) (EF.buildSlice1 rfl Try.underlying44 z54 zero54 (by simp [Value.cells, Neighbour.enc_len]) (by decide) rfl rfl (Neighbour.enc_len _) (by decide)) ?_
     rintro _ _ ⟨b79, rfl, rfl⟩
     refine Sq.eff (i := 6) rfl (Want.none rfl) rfl (ltN rfl) (EF.append1 (xs := ((L60.take i).filter (keepP q))) (s := y) el54 Neighbour.enc_len Neighbour.enc_cell rfl rfl rfl Try.underlying44 Try.underlying44 rfl rfl (by repeat constructor) (by repeat constructor) (by first | omega | (simp <;> omega))) ?_
     rintro sl80 _ rfl
     refine Sq.quiet (i := 7) rfl (Want.none rfl) rfl (ltN rfl) (QP.assign rfl rfl).read ?_
     refine Sq.nil ?_
     refine hk23 _ _ ?_
     refine Run.region ?_
     show Sq _ _ _ [0, 1, 2] _ _ _ _
     have hx1 := filter_succ (keepP q) hy
     rw [show keepP q y = true from decide_eq_true c73] at hx1
     rw [if_pos rfl] at hx1
     refine Sq.slEq (v := sl80) (by repeat constructor) hx1.symm ?_
     refine Sq.quiet (i := 0) rfl (Want.none rfl) rfl (ltN rfl) (QP.move rfl rfl).read ?_
     refine Sq.quiet (i := 1) rfl (Want.none rfl) rfl (ltN rfl) (QP.add64 rfl rfl rfl (by first | omega | (simp <;> omega)) (by first | omega | (simp <;> omega))).read ?_
     refine Sq.quiet (i := 2) rfl (Want.none rfl) rfl (ltN rfl) (QP.assign rfl rfl).read ?_
     refine Sq.nil ?_
     exact J.envJ (J.keep (.cons (by repeat constructor) (.cons (by repeat constructor) (.cons (by repeat constructor) Takes.nil))) (hl20 (i + 1) (sl80) (by omega) (by omega))) ⟨rfl, rfl, rfl, rfl, rfl, trivial⟩
    ·skip
     refine Sq.nil ?_
     refine hk24 _ _ ?_
     refine Run.cond_f rfl ?_
     refine Run.skip ?_
     refine hk23 _ _ ?_
     refine Run.region ?_
     show Sq _ _ _ [0, 1, 2] _ _ _ _
     have hx1 := filter_succ (keepP q) hy
     rw [show keepP q y = false from decide_eq_false c73] at hx1
     rw [if_neg (by simp), List.append_nil] at hx1
     refine Sq.slEq (v := va) (by repeat constructor) hx1.symm ?_
     refine Sq.quiet (i := 0) rfl (Want.none rfl) rfl (ltN rfl) (QP.move rfl rfl).read ?_
     refine Sq.quiet (i := 1) rfl (Want.none rfl) rfl (ltN rfl) (QP.add64 rfl rfl rfl (by first | omega | (simp <;> omega)) (by first | omega | (simp <;> omega))).read ?_
     refine Sq.quiet (i := 2) rfl (Want.none rfl) rfl (ltN rfl) (QP.assign rfl rfl).read ?_
     refine Sq.nil ?_
     exact J.envJ (J.keep (.cons (by repeat constructor) (.cons (by repeat constructor) (.cons (by repeat constructor) Takes.nil))) (hl20 (i + 1) (va) (by omega) (by omega))) ⟨rfl, rfl, rfl, rfl, rfl, trivial⟩
   ·skip
    refine Sq.nil ?_
    refine hk22 _ _ ?_
    refine Run.cond_f rfl ?_
    refine Run.exit rfl ?_
    refine hk18 _ _ ?_
    refine Run.seq fun k25 hk25 => ?_
    refine Run.region ?_
    show Sq _ _ _ [0, 1, 2, 3, 4, 5, 6, 7, 8, 9, 10, 11, 12, 13, 14, 15, 16, 17, 18, 19, 20, 21, 22, 23, 24, 25, 26] _ _ _ _
    have htk : L60.take i = L60 := List.take_of_length_le (by omega)
    rw [htk]
    have hfl := List.length_filter_le (keepP q) L60
    refine Sq.slCase (v := va) (xs := (L60.filter (keepP q))) (by repeat constructor) (fun ava cva hvva hhva => ?_)
    subst hvva
    refine Sq.quiet (i := 0) rfl (Want.none rfl) rfl (ltN rfl) (QP.move rfl rfl).read ?_
    refine Sq.quiet (i := 1) rfl (Want.none rfl) rfl (ltN rfl) (QP.move rfl rfl).read ?_
    refine Sq.eff (i := 2) rfl (Want.none rfl) rfl (ltN rfl) (EF.buildSliceS rfl Try.underlying98 z3 zero3 rfl (by decide) rfl rfl rfl rfl) ?_
    rintro _ _ ⟨b83, rfl, rfl⟩
    refine Sq.eff (i := 3) rfl (Want.none rfl) rfl (ltN rfl) (EF.call rfl ce21 rfl (.cons (by repeat constructor) Takes.nil) (fun F' hle hr => dropA F' (M := M) hgood (by omega) (xs := [q]) (by simp) (argSl_all (enc := fun n => [Value.int .i64 n]) (fun _ => rfl) (hr b83 _ (by repeat constructor))))) ?_
    rintro _ _ ⟨_, ⟨L84, hL84, rfl, rfl⟩, rfl⟩
    refine J.app ?_
    obtain rfl := ord_ex hL60 hL84
    refine Sq.quiet (i := 4) rfl (Want.none rfl) rfl (ltN rfl) (QP.move rfl rfl).read ?_
    refine Sq.quiet (i := 5) rfl (Want.none rfl) rfl (ltN rfl) (QP.len rfl rfl rfl Try.underlying44).read ?_
    refine Sq.quiet (i := 6) rfl (Want.none rfl) rfl (ltN rfl) (QP.move rfl rfl).read ?_
    refine Sq.quiet (i := 7) rfl (Want.none rfl) rfl (ltN rfl) (QP.len rfl rfl rfl Try.underlying44).read ?_
    refine Sq.quiet (i := 8) rfl (Want.none rfl) rfl (ltN rfl) (QP.sub64 rfl rfl rfl (by first | omega | (simp <;> omega)) (by first | omega | (simp <;> omega))).read ?_
    refine Sq.quiet (i := 9) rfl (Want.none rfl) rfl (ltN rfl) (QP.eql rfl rfl rfl).read ?_
    refine J.decT (drop_count _) ?_
    refine Sq.quiet (i := 10) rfl (Want.none rfl) rfl (ltN rfl) (QP.move rfl rfl).read ?_
    refine Sq.quiet (i := 11) rfl (Want.yes rfl rfl rfl rfl) rfl (ltN rfl) (QP.move rfl rfl).read ?_
    refine Sq.eff (i := 12) rfl (Want.yes rfl rfl rfl rfl) rfl (ltN rfl) (EF.call rfl ce13 rfl (.cons (by repeat constructor) Takes.nil) (fun F' hle hr => listA F' (M := dropM [q] M) (good_drop hgood [q]) (by omega))) ?_
    rintro v93 _ ⟨_, ⟨L93, hL93, rfl⟩, rfl⟩
    refine J.app ?_
    refine Sq.slCase (v := v93) (xs := L93) (by repeat constructor) (fun a93 c93 hv93 hh93 => ?_)
    subst hv93
    have hL93l : L93.length ≤ 120 := by rw [hL93.length]; omega
    refine Sq.quiet (i := 13) rfl (Want.yes rfl rfl rfl rfl) rfl (ltN rfl) (QP.move rfl rfl).read ?_
    refine Sq.eff (i := 14) rfl (Want.yes rfl rfl rfl rfl) rfl (ltN rfl) (EF.call rfl ce20 rfl (.cons (by repeat constructor) (.cons (by repeat constructor) Takes.nil)) (fun F' hle hr => sameN F' hh93 hhva (by omega) (by omega))) ?_
    rintro _ _ ⟨_, ⟨rfl, rfl⟩, rfl⟩
    refine J.app ?_
    refine J.boolT (decide_eq_true (drop_list hL60 hL93)) ?_
    refine Sq.quiet (i := 15) rfl (Want.none rfl) rfl (ltN rfl) (QP.pick_t rfl rfl rfl).read ?_
    refine Sq.quiet (i := 16) rfl (Want.none rfl) rfl (ltN rfl) (QP.move rfl rfl).read ?_
    refine Sq.quiet (i := 17) rfl (Want.yes rfl rfl rfl rfl) rfl (ltN rfl) (QP.move rfl rfl).read ?_
    refine Sq.quiet (i := 18) rfl (Want.yes rfl rfl rfl rfl) rfl (ltN rfl) (QP.move rfl rfl).read ?_
    refine Sq.eff (i := 19) rfl (Want.yes rfl rfl rfl rfl) rfl (ltN rfl) (EF.buildSliceS rfl Try.underlying98 z3 zero3 rfl (by decide) rfl rfl rfl rfl) ?_
    rintro _ _ ⟨b100, rfl, rfl⟩
    refine Sq.eff (i := 20) rfl (Want.yes rfl rfl rfl rfl) rfl (ltN rfl) (EF.call rfl ce21 rfl (.cons (by repeat constructor) Takes.nil) (fun F' hle hr => dropA F' (M := dropM [q] M) (good_drop hgood [q]) (by omega) (xs := [q]) (by simp) (argSl_all (enc := fun n => [Value.int .i64 n]) (fun _ => rfl) (hr b100 _ (by repeat constructor))))) ?_
    rintro _ _ ⟨_, ⟨L101, hL101, rfl, rfl⟩, rfl⟩
    refine J.app ?_
    refine Sq.quiet (i := 21) rfl (Want.yes rfl rfl rfl rfl) rfl (ltN rfl) (QP.eql rfl rfl rfl).read ?_
    refine J.decT (by rw [drop_none hL101]; rfl) ?_
    refine Sq.quiet (i := 22) rfl (Want.none rfl) rfl (ltN rfl) (QP.pick_t rfl rfl rfl).read ?_
    refine Sq.quiet (i := 23) rfl (Want.none rfl) rfl (ltN rfl) (QP.move rfl rfl).read ?_
    refine Sq.eff (i := 24) rfl (Want.yes rfl rfl rfl rfl) rfl (ltN rfl) (EF.call rfl ce9 rfl Takes.nil (fun F' hle hr => live_spec F')) ?_
    rintro _ _ ⟨_, ⟨rfl, rfl⟩, rfl⟩
    refine J.app ?_
    refine Sq.quiet (i := 25) rfl (Want.none rfl) rfl (ltN rfl) (QP.pick_t rfl rfl rfl).read ?_
    refine Sq.quiet (i := 26) rfl (Want.none rfl) rfl (ltN rfl) (QP.assign rfl rfl).read ?_
    refine Sq.nil ?_
    refine hk25 _ _ ?_
    refine Run.ret ?_
    exact J.ends (res_tmp rfl rfl) Takes.nil ⟨rfl, rfl⟩
 ·skip
  refine Sq.quiet (i := 3) rfl (Want.none rfl) rfl (ltN rfl) (QP.not rfl rfl).read ?_
  refine Sq.nil ?_
  refine hk3 _ _ ?_
  refine Run.cond_t rfl ?_
  refine Run.seq fun k26 hk26 => ?_
  refine Run.region ?_
  show Sq _ _ _ [0, 1] _ _ _ _
  refine Sq.eff (i := 0) rfl (Want.none rfl) rfl (ltN rfl) (EF.call rfl ce9 rfl Takes.nil (fun F' hle hr => live_spec F')) ?_
  rintro _ _ ⟨_, ⟨rfl, rfl⟩, rfl⟩
  refine J.app ?_
  refine Sq.quiet (i := 1) rfl (Want.none rfl) rfl (ltN rfl) (QP.assign rfl rfl).read ?_
  refine Sq.nil ?_
  refine hk26 _ _ ?_
  refine Run.ret ?_
  exact J.ends (res_tmp rfl rfl) Takes.nil ⟨rfl, rfl⟩
end Slb
