/- X11: a part of the proof that a law of this package holds for every input; no condition. -/
import Derived.Test.YtanlgpdpjgpmfaaX10
import Derived.Test.YtanlgpdpjgpmfaaX4
import Derived.Test.YtanlgpdpjgpmfaaM2
namespace Slb
open Go Go.Proofs
set_option maxRecDepth 20000
theorem tab_fold : ∀ (xs : List Entry) (M : TabE), (xs.map Entry.pair).Nodup → (∀ x ∈ xs, checkPairB x.pair = true) → (∀ x ∈ xs, alook M x.pair = none) → xs.foldl (impK []) M = M ++ tabOf xs := by
  intro xs
  induction xs with
  | nil => intro M _ _ _; simp [tabOf]
  | cons x xs ih =>
    intro M hn hc hm
    rw [List.map_cons, List.nodup_cons] at hn
    have hx := hm x List.mem_cons_self
    have ho : impOk [] M x = true := by
      unfold impOk
      rw [hx, hc x List.mem_cons_self]
      rfl
    rw [List.foldl_cons, impK_yes ho, aset_none hx]
    rw [ih _ hn.2 (fun y hy => hc y (List.mem_cons_of_mem _ hy)) fun y hy => ?_]
    · simp [tabOf]
    · refine alook_none.2 fun z hz hzy => ?_
      rcases List.mem_append.1 hz with hz | hz
      · exact alook_none.1 (hm y (List.mem_cons_of_mem _ hy)) z hz hzy
      · simp at hz
        subst hz
        exact hn.1 (List.mem_map.2 ⟨y, hy, hzy.symm⟩)
theorem familyB_two (a : Bs 16) : familyB a = 4 ∨ familyB a = 6 := by unfold familyB; split <;> simp
theorem pfamily_two (p : Prefix) : pfamilyB p = 4 ∨ pfamilyB p = 6 := by
  unfold pfamilyB
  split
  · exact .inr rfl
  · exact familyB_two _
theorem any_ok {f : Int} : checkB (anyB f) = true := by
  unfold anyB
  split
  · kernel_rfl
  · kernel_rfl
theorem any_family {f : Int} (h : f = 4 ∨ f = 6) : pfamilyB (anyB f) = f := by
  rcases h with rfl | rfl <;> kernel_rfl
def plainE (e : Entry) : Entry := { e with pair := { e.pair with src := anyB (pfamilyB e.pair.dst) } }
def pstep (P : List Entry) (e : Entry) : List Entry := if checkB e.pair.dst = true ∧ ∀ x ∈ P, x.pair ≠ (plainE e).pair then P ++ [plainE e] else P
structure PlainL (P : List Entry) : Prop where
  nodup : (P.map Entry.pair).Nodup
  ok : ∀ x ∈ P, checkB x.pair.dst = true ∧ x.pair.src = anyB (pfamilyB x.pair.dst)
theorem PlainL.step {P : List Entry} (h : PlainL P) (e : Entry) : PlainL (pstep P e) := by
  unfold pstep
  split
  · rename_i hc
    refine ⟨?_, fun x hx => ?_⟩
    · rw [List.map_append, List.nodup_append]
      refine ⟨h.nodup, by simp, fun a ha b hb => ?_⟩
      simp only [List.map_cons, List.map_nil, List.mem_singleton] at hb
      subst hb
      obtain ⟨x, hx, rfl⟩ := List.mem_map.1 ha
      exact hc.2 x hx
    · rcases List.mem_append.1 hx with hx | hx
      · exact h.ok x hx
      · simp at hx; subst hx; exact ⟨hc.1, rfl⟩
  · exact h
theorem PlainL.fold (xs : List Entry) : ∀ {P : List Entry}, PlainL P → PlainL (xs.foldl pstep P) := by
  induction xs with
  | nil => exact fun h => h
  | cons x xs ih => exact fun h => ih (h.step x)
theorem pfold_len (xs : List Entry) : ∀ P : List Entry, (xs.foldl pstep P).length ≤ P.length + xs.length := by
  induction xs with
  | nil => intro P; simp
  | cons x xs ih =>
    intro P
    have h1 : (pstep P x).length ≤ P.length + 1 := by unfold pstep; split <;> simp
    have := ih (pstep P x)
    simp only [List.foldl_cons, List.length_cons]
    omega
theorem PlainL.uniq {P : List Entry} (h : PlainL P) {a b : Entry} (ha : a ∈ P) (hb : b ∈ P) (hp : a.pair = b.pair) : a = b := by
  obtain ⟨i, hi, rfl⟩ := List.mem_iff_getElem.1 ha
  obtain ⟨j, hj, rfl⟩ := List.mem_iff_getElem.1 hb
  have hij : i = j := by
    have hn := h.nodup
    have h1 : (P.map Entry.pair)[i]? = some P[i].pair := by rw [List.getElem?_map, List.getElem?_eq_getElem hi]; rfl
    have h2 : (P.map Entry.pair)[j]? = some P[j].pair := by rw [List.getElem?_map, List.getElem?_eq_getElem hj]; rfl
    exact (List.getElem?_inj (by rw [List.length_map]; exact hi) hn).1 (h1.trans (by rw [hp, ← h2]))
  subst hij; rfl
theorem PlainL.good {P : List Entry} (h : PlainL P) {x : Entry} (hx : x ∈ P) : checkPairB x.pair = true := by
  obtain ⟨h1, h2⟩ := h.ok x hx
  refine checkPair_iff.2 ⟨h1, by rw [h2]; exact any_ok, ?_⟩
  rw [h2, any_family (pfamily_two _)]
theorem plain_exp {P L' : List Entry} (h : PlainL P) (he : Expands P L') : (∀ e, e ∈ L' ↔ e ∈ P) ∧ L'.length = P.length ∧ L'.Pairwise fun a b => cmpE a b < 0 := by
  obtain ⟨L, hL, hL'⟩ := he
  rw [tab_fold P [] h.nodup (fun x hx => h.good hx) (fun x _ => rfl), List.nil_append] at hL
  have hval : (tabOf P).map (·.2) = P := by simp [tabOf, Function.comp_def]
  have hLP : ∀ x, x ∈ L ↔ x ∈ P := fun x => by
    have := hL.perm
    rw [hval] at this
    exact this.mem_iff
  have hself : ∀ x ∈ P, expV L x.pair = x := fun x hx => by
    have hm : meansB x.pair x = true := by
      unfold meansB
      rw [covers_refl (h.ok x hx).1, covers_refl (show checkB x.pair.src = true by rw [(h.ok x hx).2]; exact any_ok)]
      simp
    obtain ⟨b1, b2, b3⟩ := best_of ((hLP x).2 hx) hm
    have hb := b3 x ((hLP x).2 hx) hm
    unfold expV
    generalize bestB L x.pair = b at b1 b2 hb ⊢
    have hbp := (hLP b).1 b1
    unfold meansB at b2
    simp only [Bool.and_eq_true] at b2
    have hle := (covers_iff.1 b2.1).2.1
    have hge : x.pair.dst.len.val ≤ b.pair.dst.len.val := by
      unfold betterE at hb
      simp only [Bool.or_eq_false_iff, decide_eq_false_iff_not] at hb
      omega
    have hd : b.pair.dst = x.pair.dst := covers_eq b2.1 (by omega)
    have hbx : b = x := h.uniq hbp hx (pair_ext hd (by rw [(h.ok b hbp).2, (h.ok x hx).2, hd]))
    rw [hbx]
  have hmem : ∀ e, e ∈ L' ↔ e ∈ P := fun e => by
    rw [exp_mem hL']
    constructor
    · rintro ⟨h1, x, hx, y, hy, hok, hp⟩
      have hxP := (hLP x).1 hx
      have hyP := (hLP y).1 hy
      unfold expOk at hok
      rw [Bool.and_eq_true] at hok
      obtain ⟨_, _, hf⟩ := checkPair_iff.1 hok.2
      have hpx : expP x y = x.pair := by
        refine pair_ext rfl ?_
        show y.pair.src = x.pair.src
        have hf' : pfamilyB x.pair.dst = pfamilyB y.pair.src := hf
        rw [(h.ok y hyP).2, any_family (pfamily_two _)] at hf'
        rw [(h.ok y hyP).2, (h.ok x hxP).2, hf']
      rw [← hp, hpx, hself x hxP] at h1
      rw [h1]; exact hxP
    · intro hx
      refine ⟨(hself e hx).symm, e, (hLP e).2 hx, e, (hLP e).2 hx, ?_, rfl⟩
      unfold expOk
      rw [covers_refl (h.ok e hx).1, show checkPairB (expP e e) = true from h.good hx]
      rfl
  refine ⟨hmem, ?_, hL'.sort⟩
  have hn1 : L'.Nodup := hL'.nodupL keyCmpE
  have hn2 : P.Nodup := by
    have := h.nodup
    exact List.Pairwise.of_map Entry.pair (fun a b hne e => hne (by rw [e])) this
  exact ((List.perm_ext_iff_of_nodup hn1 hn2).2 hmem).length_eq

theorem law_plain (F : Fr) {a : Option Addr} {c : Nat} {xs : List Entry} (hc : xs.length ≤ 9223372036854775807) (ha : ArgSl F a 51 Entry.enc xs) : Spec Try.prog 8 #[.slice a xs.length c] [] F (fun v S => v = .bool true ∧ S = []) := by
 refine Spec.intro (N := 100) (args := [.slice a xs.length c]) Try.func8 rfl rfl (by simp) ?_
 refine Run.seq fun k1 hk1 => ?_
 refine Run.region ?_
 show Sq _ _ _ [0] _ _ _ _
 refine Sq.quiet (i := 0) rfl (Want.none rfl) rfl (ltN rfl) (QP.assign rfl rfl).read ?_
 refine Sq.nil ?_
 refine hk1 _ _ ?_
 refine Run.seq fun k2 hk2 => ?_
 refine Run.seq fun k3 hk3 => ?_
 refine Run.region ?_
 show Sq _ _ _ [0, 1, 2] _ _ _ _
 refine Sq.quiet (i := 0) rfl (Want.none rfl) rfl (ltN rfl) (QP.move rfl rfl).read ?_
 refine Sq.quiet (i := 1) rfl (Want.none rfl) rfl (ltN rfl) (QP.len rfl rfl rfl Try.underlying22).read ?_
 refine Sq.quiet (i := 2) rfl (Want.none rfl) rfl (ltN rfl) (QP.gtr rfl rfl rfl).read ?_
 refine J.caseD (fun c11 => ?_) (fun c11 => ?_)
 ·skip
  refine Sq.nil ?_
  refine hk3 _ _ ?_
  refine Run.cond_t rfl ?_
  refine Run.seq fun k4 hk4 => ?_
  refine Run.region ?_
  show Sq _ _ _ [0, 1] _ _ _ _
  refine Sq.eff (i := 0) rfl (Want.none rfl) rfl (ltN rfl) (EF.call rfl ce10 rfl Takes.nil (fun F' hle hr => live_spec F')) ?_
  rintro _ _ ⟨_, ⟨rfl, rfl⟩, rfl⟩
  refine J.app ?_
  refine Sq.quiet (i := 1) rfl (Want.none rfl) rfl (ltN rfl) (QP.assign rfl rfl).read ?_
  refine Sq.nil ?_
  refine hk4 _ _ ?_
  refine Run.ret ?_
  exact J.ends (res_tmp rfl rfl) Takes.nil ⟨rfl, rfl⟩
 ·skip
  refine Sq.nil ?_
  refine hk3 _ _ ?_
  refine Run.cond_f rfl ?_
  refine Run.skip ?_
  refine hk2 _ _ ?_
  refine Run.seq fun k5 hk5 => ?_
  refine Run.region ?_
  show Sq _ _ _ [0] _ _ _ _
  refine J.addSl 41 51 Entry.enc ?_
  refine Sq.quiet (i := 0) rfl (Want.none rfl) rfl (ltN rfl) (QP.assign rfl rfl).read ?_
  refine Sq.nil ?_
  refine hk5 _ _ ?_
  refine Run.seq fun k6 hk6 => ?_
  refine Run.seq fun k7 hk7 => ?_
  refine Run.region ?_
  show Sq _ _ _ [0] _ _ _ _
  refine Sq.quiet (i := 0) rfl (Want.none rfl) rfl (ltN rfl) (QP.assign rfl rfl).read ?_
  refine Sq.nil ?_
  refine hk7 _ _ ?_
  refine Run.block ?_
  refine Run.loop2 (fun (i : Nat) (vp : Value) => i ≤ xs.length) (fun i vp => .cons 0 (.slice a xs.length c) (.cons 3 (vp) (.cons 4 (.int .i64 i) (.nil)))) (fun i vp => [slA 41 51 Entry.enc vp ((xs.take i).foldl pstep [])]) (fun i vp => xs.length - i) (0) (.slice none 0 0) (Nat.zero_le _) ?_ ?_
  ·exact fun _ j => J.envJ (J.keep (.cons (by repeat constructor) Takes.nil) j) ⟨rfl, rfl, rfl, trivial⟩
  rintro i vp hile kl8 hl8
  refine Run.seq fun k9 hk9 => ?_
  refine Run.seq fun k10 hk10 => ?_
  refine Run.region ?_
  show Sq _ _ _ [0, 1, 2, 3] _ _ _ _
  refine Sq.quiet (i := 0) rfl (Want.none rfl) rfl (ltN rfl) (QP.move rfl rfl).read ?_
  refine Sq.quiet (i := 1) rfl (Want.none rfl) rfl (ltN rfl) (QP.move rfl rfl).read ?_
  refine Sq.quiet (i := 2) rfl (Want.none rfl) rfl (ltN rfl) (QP.len rfl rfl rfl Try.underlying22).read ?_
  refine Sq.quiet (i := 3) rfl (Want.none rfl) rfl (ltN rfl) (QP.lss rfl rfl rfl).read ?_
  refine J.caseD (fun c16 => ?_) (fun c16 => ?_)
  ·skip
   refine Sq.nil ?_
   refine hk10 _ _ ?_
   refine Run.cond_t rfl ?_
   refine Run.skip ?_
   refine hk9 _ _ ?_
   refine Run.seq fun k11 hk11 => ?_
   refine Run.block ?_
   refine Run.seq fun k12 hk12 => ?_
   refine Run.region ?_
   show Sq _ _ _ [0, 1, 2, 3, 4, 5] _ _ _ _
   have hlt : i < xs.length := by omega
   obtain ⟨e, hi⟩ : ∃ e, xs[i]? = some e := ⟨_, List.getElem?_eq_getElem hlt⟩
   obtain ⟨b0, o0, rfl, hs0⟩ := ha.get (by omega)
   have hsu : (xs.take (i + 1)).foldl pstep [] = pstep ((xs.take i).foldl pstep []) e := by rw [List.take_add_one, hi, Option.toList_some, List.foldl_append]; rfl
   have hpl := pfold_len (xs.take i) []
   have htl : (xs.take i).length ≤ 24 := by rw [List.length_take]; omega
   simp only [List.length_nil] at hpl
   refine Sq.quiet (i := 0) rfl (Want.none rfl) rfl (ltN rfl) (QP.move rfl rfl).read ?_
   refine Sq.quiet (i := 1) rfl (Want.none rfl) rfl (ltN rfl) (QP.move rfl rfl).read ?_
   refine Sq.quiet (i := 2) rfl (Want.none rfl) rfl (ltN rfl) (QP.indexAddr rfl rfl rfl Try.underlying22 z41 (by first | omega | (simp <;> omega)) (by first | omega | (simp <;> omega))).read ?_
   refine Sq.quiet (i := 3) rfl (Want.none rfl) rfl (ltN rfl) (QR.loadSl rfl rfl g41 Entry.enc_len (hs0 _) hi) ?_
   refine Sq.eff (i := 4) rfl (Want.none rfl) rfl (ltN rfl) (EF.allocA (l := Entry.enc Entry.zero) rfl zero41) ?_
   rintro _ _ ⟨b5, rfl, rfl⟩
   refine Sq.act (i := 5) rfl (Want.none rfl) rfl (EF.storeA rfl rfl rfl z41 (SetL.all (Entry.enc_len _) (Entry.enc_len _)) (Entry.enc_cell _)) ?_
   rintro _ _ rfl
   refine Sq.nil ?_
   refine hk12 _ _ ?_
   refine Run.seq fun k13 hk13 => ?_
   refine Run.seq fun k14 hk14 => ?_
   refine Run.region ?_
   show Sq _ _ _ [0, 1, 2, 3, 4, 5] _ _ _ _
   refine Sq.quiet (i := 0) rfl (Want.none rfl) rfl (ltN rfl) (QP.fieldAddr rfl rfl f41_0).read ?_
   refine Sq.quiet (i := 1) rfl (Want.none rfl) rfl (ltN rfl) (QP.fieldAddr rfl rfl f39_0).read ?_
   refine Sq.quiet (i := 2) rfl (Want.none rfl) rfl (ltN rfl) (QR.load rfl rfl g37 ((Entry.sub_pair _).trans (Pair.sub_dst _))) ?_
   refine Sq.eff (i := 3) rfl (Want.none rfl) rfl (ltN rfl) (EF.call rfl ce31 rfl Takes.nil (fun F' hle hr => check_spec F' (((e).pair).dst))) ?_
   rintro _ _ ⟨_, ⟨rfl, rfl⟩, rfl⟩
   refine J.app ?_
   refine Sq.eff (i := 4) rfl (Want.none rfl) rfl (ltN rfl) (EF.call rfl ce20 rfl Takes.nil (fun F' hle hr => num_spec F' _)) ?_
   rintro _ _ ⟨_, ⟨rfl, rfl⟩, rfl⟩
   refine J.app ?_
   refine Sq.quiet (i := 5) rfl (Want.none rfl) rfl (ltN rfl) (QP.neq rfl rfl rfl).read ?_
   refine J.caseD (fun c28 => ?_) (fun c28 => ?_)
   ·skip
    refine Sq.nil ?_
    refine hk14 _ _ ?_
    refine Run.cond_t rfl ?_
    refine Run.exit rfl ?_
    refine hk11 _ _ ?_
    refine Run.region ?_
    show Sq _ _ _ [0, 1, 2] _ _ _ _
    have hpe : pstep ((xs.take i).foldl pstep []) e = ((xs.take i).foldl pstep []) := by unfold pstep; rw [if_neg (fun h => c28 (erno_zero.2 h.1))]
    refine Sq.quiet (i := 0) rfl (Want.none rfl) rfl (ltN rfl) (QP.move rfl rfl).read ?_
    refine Sq.quiet (i := 1) rfl (Want.none rfl) rfl (ltN rfl) (QP.add64 rfl rfl rfl (by first | omega | (simp <;> omega)) (by first | omega | (simp <;> omega))).read ?_
    refine Sq.quiet (i := 2) rfl (Want.none rfl) rfl (ltN rfl) (QP.assign rfl rfl).read ?_
    refine Sq.nil ?_
    refine J.slEq (v := vp) (by repeat constructor) (show _ = (xs.take (i + 1)).foldl pstep [] by rw [hsu, hpe]) ?_
    exact J.envJ (J.keep (.cons (by repeat constructor) Takes.nil) (hl8 (i + 1) (vp) (by omega) (by omega))) ⟨rfl, rfl, rfl, trivial⟩
   ·skip
    refine Sq.nil ?_
    refine hk14 _ _ ?_
    refine Run.cond_f rfl ?_
    refine Run.skip ?_
    refine hk13 _ _ ?_
    refine Run.seq fun k15 hk15 => ?_
    refine Run.region ?_
    show Sq _ _ _ [0, 1, 2, 3, 4, 5, 6, 7] _ _ _ _
    refine Sq.quiet (i := 0) rfl (Want.none rfl) rfl (ltN rfl) (QP.fieldAddr rfl rfl f41_0).read ?_
    refine Sq.quiet (i := 1) rfl (Want.none rfl) rfl (ltN rfl) (QP.fieldAddr rfl rfl f39_0).read ?_
    refine Sq.quiet (i := 2) rfl (Want.none rfl) rfl (ltN rfl) (QR.load rfl rfl g37 ((Entry.sub_pair _).trans (Pair.sub_dst _))) ?_
    refine Sq.eff (i := 3) rfl (Want.none rfl) rfl (ltN rfl) (EF.call rfl ce33 rfl Takes.nil (fun F' hle hr => pfamily_spec F' (((e).pair).dst))) ?_
    rintro _ _ ⟨_, ⟨rfl, rfl⟩, rfl⟩
    refine J.app ?_
    refine Sq.eff (i := 4) rfl (Want.none rfl) rfl (ltN rfl) (EF.call rfl ce32 rfl Takes.nil (fun F' hle hr => any_spec F' ((pfamilyB (((e).pair).dst))))) ?_
    rintro _ _ ⟨_, ⟨rfl, rfl⟩, rfl⟩
    refine J.app ?_
    refine Sq.quiet (i := 5) rfl (Want.none rfl) rfl (ltN rfl) (QP.fieldAddr rfl rfl f41_0).read ?_
    refine Sq.quiet (i := 6) rfl (Want.none rfl) rfl (ltN rfl) (QP.fieldAddr rfl rfl f39_1).read ?_
    refine Sq.act (i := 7) rfl (Want.none rfl) rfl (EF.storeA rfl rfl rfl z37 ((Entry.set_pair _ _).trans (Entry.sub_pair _) (Pair.set_src _ _)) (Prefix.enc_cell _)) ?_
    rintro _ _ rfl
    refine Sq.nil ?_
    refine hk15 _ _ ?_
    refine Run.seq fun k16 hk16 => ?_
    refine Run.region ?_
    show Sq _ _ _ [0, 1, 2, 3, 4] _ _ _ _
    refine J.slCase (v := vp) (xs := ((xs.take i).foldl pstep [])) (by repeat constructor) (fun ap cp hvp hhp => ?_)
    subst hvp
    refine Sq.quiet (i := 0) rfl (Want.none rfl) rfl (ltN rfl) (QP.move rfl rfl).read ?_
    refine Sq.quiet (i := 1) rfl (Want.none rfl) rfl (ltN rfl) (QP.fieldAddr rfl rfl f41_0).read ?_
    refine Sq.quiet (i := 2) rfl (Want.none rfl) rfl (ltN rfl) (QR.load rfl rfl g39 (Entry.sub_pair _)) ?_
    refine Sq.eff (i := 3) rfl (Want.none rfl) rfl (ltN rfl) (EF.call rfl ce29 rfl (.cons (by repeat constructor) Takes.nil) (fun F' hle hr => find_spec F' (by omega) hhp _)) ?_
    rintro _ _ ⟨_, ⟨rfl, n39, rfl, hfind⟩, rfl⟩
    refine J.app ?_
    refine Sq.quiet (i := 4) rfl (Want.none rfl) rfl (ltN rfl) (QP.lss rfl rfl rfl).read ?_
    refine J.caseD (fun c40 => ?_) (fun c40 => ?_)
    ·skip
     refine Sq.nil ?_
     refine hk16 _ _ ?_
     refine Run.cond_t rfl ?_
     refine Run.region ?_
     show Sq _ _ _ [0, 1, 2, 3, 4] _ _ _ _
     refine Sq.quiet (i := 0) rfl (Want.none rfl) rfl (ltN rfl) (QP.move rfl rfl).read ?_
     refine Sq.quiet (i := 1) rfl (Want.none rfl) rfl (ltN rfl) (QR.load rfl rfl g41 (Entry.enc_sub _)) ?_
     refine Sq.eff (i := 2) rfl (Want.none rfl) rfl (ltN rfl) (EF.buildSlice1 rfl Try.underlying22 z41 zero41 (by simp [Value.cells, Entry.enc_len]) (by decide) rfl rfl (Entry.enc_len _) (by decide)) ?_
     rintro _ _ ⟨b43, rfl, rfl⟩
     refine Sq.eff (i := 3) rfl (Want.none rfl) rfl (ltN rfl) (EF.append1 (xs := ((xs.take i).foldl pstep [])) (s := (plainE e)) el41 Entry.enc_len Entry.enc_cell rfl rfl rfl Try.underlying22 Try.underlying22 rfl rfl (by repeat constructor) (by repeat constructor) (by first | omega | (simp <;> omega))) ?_
     rintro sl44 _ rfl
     refine Sq.quiet (i := 4) rfl (Want.none rfl) rfl (ltN rfl) (QP.assign rfl rfl).read ?_
     refine Sq.nil ?_
     refine hk11 _ _ ?_
     refine Run.region ?_
     show Sq _ _ _ [0, 1, 2] _ _ _ _
     have hno : ∀ x ∈ ((xs.take i).foldl pstep []), x.pair ≠ (plainE e).pair := by
       rcases hfind with ⟨_, h⟩ | ⟨k, y, h, _, _⟩
       · exact h
       · omega
     have hpe : pstep ((xs.take i).foldl pstep []) e = ((xs.take i).foldl pstep []) ++ [plainE e] := by unfold pstep; rw [if_pos ⟨erno_zero.1 (Classical.not_not.1 c28), hno⟩]
     refine Sq.quiet (i := 0) rfl (Want.none rfl) rfl (ltN rfl) (QP.move rfl rfl).read ?_
     refine Sq.quiet (i := 1) rfl (Want.none rfl) rfl (ltN rfl) (QP.add64 rfl rfl rfl (by first | omega | (simp <;> omega)) (by first | omega | (simp <;> omega))).read ?_
     refine Sq.quiet (i := 2) rfl (Want.none rfl) rfl (ltN rfl) (QP.assign rfl rfl).read ?_
     refine Sq.nil ?_
     refine J.slEq (v := sl44) (by repeat constructor) (show _ = (xs.take (i + 1)).foldl pstep [] by rw [hsu, hpe]) ?_
     exact J.envJ (J.keep (.cons (by repeat constructor) Takes.nil) (hl8 (i + 1) (sl44) (by omega) (by omega))) ⟨rfl, rfl, rfl, trivial⟩
    ·skip
     refine Sq.nil ?_
     refine hk16 _ _ ?_
     refine Run.cond_f rfl ?_
     refine Run.skip ?_
     refine hk11 _ _ ?_
     refine Run.region ?_
     show Sq _ _ _ [0, 1, 2] _ _ _ _
     have hpe : pstep ((xs.take i).foldl pstep []) e = ((xs.take i).foldl pstep []) := by
       unfold pstep
       rw [if_neg fun h => ?_]
       rcases hfind with ⟨h1, _⟩ | ⟨k, y, _, h2, h3⟩
       · omega
       · exact h.2 y (List.mem_of_getElem? h2) h3
     refine Sq.quiet (i := 0) rfl (Want.none rfl) rfl (ltN rfl) (QP.move rfl rfl).read ?_
     refine Sq.quiet (i := 1) rfl (Want.none rfl) rfl (ltN rfl) (QP.add64 rfl rfl rfl (by first | omega | (simp <;> omega)) (by first | omega | (simp <;> omega))).read ?_
     refine Sq.quiet (i := 2) rfl (Want.none rfl) rfl (ltN rfl) (QP.assign rfl rfl).read ?_
     refine Sq.nil ?_
     refine J.slEq (v := .slice ap ((xs.take i).foldl pstep []).length cp) (by repeat constructor) (show _ = (xs.take (i + 1)).foldl pstep [] by rw [hsu, hpe]) ?_
     exact J.envJ (J.keep (.cons (by repeat constructor) Takes.nil) (hl8 (i + 1) (.slice ap ((xs.take i).foldl pstep []).length cp) (by omega) (by omega))) ⟨rfl, rfl, rfl, trivial⟩
  ·skip
   refine Sq.nil ?_
   refine hk10 _ _ ?_
   refine Run.cond_f rfl ?_
   refine Run.exit rfl ?_
   refine hk6 _ _ ?_
   refine Run.seq fun k17 hk17 => ?_
   refine Run.region ?_
   show Sq _ _ _ [0, 1, 2] _ _ _ _
   have hty : xs.take i = xs := List.take_of_length_le (by omega)
   rw [hty]
   have hP : PlainL (xs.foldl pstep []) := PlainL.fold xs ⟨by simp, by simp⟩
   have hpl := pfold_len xs []
   simp only [List.length_nil] at hpl
   generalize hPP : xs.foldl pstep [] = P at hP hpl ⊢
   refine J.slCase (v := vp) (xs := P) (by repeat constructor) (fun ap cp hvp hhp => ?_)
   subst hvp
   refine Sq.quiet (i := 0) rfl (Want.none rfl) rfl (ltN rfl) (QP.move rfl rfl).read ?_
   refine Sq.eff (i := 1) rfl (Want.none rfl) rfl (ltN rfl) (EF.call rfl ce12 rfl (.cons (by repeat constructor) Takes.nil) (fun F' hle hr => Spec.lendSl Entry.enc_len (fun F2 _ h2 => expand_spec F2 h2 (by omega)))) ?_
   rintro v46 _ ⟨_, ⟨_, ⟨L', hex, rfl⟩, rfl⟩, rfl⟩
   refine J.app ?_
   obtain ⟨hmem, hlen, hsort⟩ := plain_exp hP hex
   refine J.slCase (v := v46) (xs := L') (by repeat constructor) (fun a46 c46 hv46 hh46 => ?_)
   subst hv46
   refine Sq.quiet (i := 2) rfl (Want.none rfl) rfl (ltN rfl) (QP.assign rfl rfl).read ?_
   refine Sq.nil ?_
   refine hk17 _ _ ?_
   refine Run.seq fun k18 hk18 => ?_
   refine Run.seq fun k19 hk19 => ?_
   refine Run.region ?_
   show Sq _ _ _ [0] _ _ _ _
   refine Sq.quiet (i := 0) rfl (Want.none rfl) rfl (ltN rfl) (QP.assign rfl rfl).read ?_
   refine Sq.nil ?_
   refine hk19 _ _ ?_
   refine Run.block ?_
   refine Run.loop1 (fun (i : Nat) => i ≤ L'.length) (fun i => .cons 3 (.slice ap P.length cp) (.cons 6 (.slice a46 L'.length c46) (.cons 7 (.int .i64 i) (.nil)))) (fun i => [slA 41 51 Entry.enc (.slice ap P.length cp) P, slA 41 51 Entry.enc (.slice a46 L'.length c46) L']) (fun i => L'.length - i) (0) (Nat.zero_le _) ?_ ?_
   ·exact fun _ j => J.envJ (J.keep (.cons (by repeat constructor) (.cons (by repeat constructor) Takes.nil)) j) ⟨rfl, rfl, rfl, trivial⟩
   rintro i hile2 kl20 hl20
   refine Run.seq fun k21 hk21 => ?_
   refine Run.seq fun k22 hk22 => ?_
   refine Run.region ?_
   show Sq _ _ _ [0, 1, 2, 3] _ _ _ _
   refine Sq.quiet (i := 0) rfl (Want.none rfl) rfl (ltN rfl) (QP.move rfl rfl).read ?_
   refine Sq.quiet (i := 1) rfl (Want.none rfl) rfl (ltN rfl) (QP.move rfl rfl).read ?_
   refine Sq.quiet (i := 2) rfl (Want.none rfl) rfl (ltN rfl) (QP.len rfl rfl rfl Try.underlying22).read ?_
   refine Sq.quiet (i := 3) rfl (Want.none rfl) rfl (ltN rfl) (QP.lss rfl rfl rfl).read ?_
   refine J.caseD (fun c50 => ?_) (fun c50 => ?_)
   ·skip
    refine Sq.nil ?_
    refine hk22 _ _ ?_
    refine Run.cond_t rfl ?_
    refine Run.skip ?_
    refine hk21 _ _ ?_
    refine Run.seq fun k23 hk23 => ?_
    refine Run.block ?_
    refine Run.seq fun k24 hk24 => ?_
    refine Run.region ?_
    show Sq _ _ _ [0, 1, 2, 3, 4, 5, 6, 7] _ _ _ _
    have hlt : i < L'.length := by omega
    obtain ⟨x, hi⟩ : ∃ x, L'[i]? = some x := ⟨_, List.getElem?_eq_getElem hlt⟩
    obtain ⟨b0, o0, rfl⟩ := hh46.get (by omega)
    have hxP : x ∈ P := (hmem x).1 (List.mem_of_getElem? hi)
    obtain ⟨b2, o2, rfl⟩ := hhp.get (by omega)
    refine Sq.quiet (i := 0) rfl (Want.none rfl) rfl (ltN rfl) (QP.move rfl rfl).read ?_
    refine Sq.quiet (i := 1) rfl (Want.none rfl) rfl (ltN rfl) (QP.move rfl rfl).read ?_
    refine Sq.quiet (i := 2) rfl (Want.none rfl) rfl (ltN rfl) (QP.move rfl rfl).read ?_
    refine Sq.quiet (i := 3) rfl (Want.none rfl) rfl (ltN rfl) (QP.indexAddr rfl rfl rfl Try.underlying22 z41 (by first | omega | (simp <;> omega)) (by first | omega | (simp <;> omega))).read ?_
    refine Sq.quiet (i := 4) rfl (Want.none rfl) rfl (ltN rfl) (QP.fieldAddr rfl rfl f41_0).read ?_
    refine Sq.quiet (i := 5) rfl (Want.none rfl) rfl (ltN rfl) (QR.loadSlF rfl rfl g39 Entry.enc_len (SlAt.own Entry.enc_len (by repeat constructor)) hi (Entry.sub_pair _)) ?_
    refine Sq.eff (i := 6) rfl (Want.none rfl) rfl (ltN rfl) (EF.call rfl ce29 rfl (.cons (by repeat constructor) Takes.nil) (fun F' hle hr => find_spec F' (by omega) hhp _)) ?_
    rintro _ _ ⟨_, ⟨rfl, n59, rfl, hfind⟩, rfl⟩
    refine J.app ?_
    refine Sq.quiet (i := 7) rfl (Want.none rfl) rfl (ltN rfl) (QP.assign rfl rfl).read ?_
    refine Sq.nil ?_
    refine hk24 _ _ ?_
    refine Run.seq fun k25 hk25 => ?_
    refine Run.regionD (M := [0, 1, 3, 7, 7, 31, 63, 7, 7, 391, 903, 2047, 4095, 8191, 16383, 32767, 65535, 131071, 131071, 393215, 1048575, 2097151, 4194303, 131071, 131071, 25296895, 58851327, 125960191, 268435455, 536870911, 1073741823, 2147483647]) (q := 4026531839) (r := 138413120) (by kernel_rfl) ?_
    obtain ⟨k, rfl, hk⟩ : ∃ k : Nat, n59 = (k : Int) ∧ P[k]? = some x := by
      rcases hfind with ⟨_, h⟩ | ⟨k, y, h1, h2, h3⟩
      · exact absurd rfl (h x hxP)
      · exact ⟨k, h1, by rw [h2, hP.uniq (List.mem_of_getElem? h2) hxP h3]⟩
    have hkl : k < P.length := (List.getElem?_eq_some_iff.1 hk).1
    refine Dw.pure (i := 0) rfl (by kernel_rfl) (Want.none rfl) rfl (ltN rfl) (QP.move rfl rfl) ?_
    refine Dw.pure (i := 1) rfl (by kernel_rfl) (Want.none rfl) rfl (ltN rfl) (QP.lss rfl rfl rfl) ?_
    refine J.decF (by omega) ?_
    refine Dw.pure (i := 2) rfl (by kernel_rfl) (Want.none rfl) rfl (ltN rfl) (QP.move rfl rfl) ?_
    refine Dw.pure (i := 3) rfl (by kernel_rfl) (Want.yes rfl rfl rfl rfl) rfl (ltN rfl) (QP.move rfl rfl) ?_
    refine Dw.pure (i := 4) rfl (by kernel_rfl) (Want.yes rfl rfl rfl rfl) rfl (ltN rfl) (QP.move rfl rfl) ?_
    refine Dw.pure (i := 5) rfl (by kernel_rfl) (Want.yes rfl rfl rfl rfl) rfl (ltN rfl) (QP.indexAddr rfl rfl rfl Try.underlying22 z41 (by first | omega | (simp <;> omega)) (by first | omega | (simp <;> omega))) ?_
    refine Dw.read (i := 6) rfl (by kernel_rfl) (Want.yes rfl rfl rfl rfl) rfl (ltN rfl) (QR.loadSl rfl rfl g41 Entry.enc_len (SlAt.own Entry.enc_len (by repeat constructor)) hi) ?_
    refine Dw.pure (i := 7) rfl (by kernel_rfl) (Want.yes rfl rfl rfl rfl) rfl (ltN rfl) (QP.move rfl rfl) ?_
    refine Dw.pure (i := 8) rfl (by kernel_rfl) (Want.yes rfl rfl rfl rfl) rfl (ltN rfl) (QP.move rfl rfl) ?_
    refine Dw.pure (i := 9) rfl (by kernel_rfl) (Want.yes rfl rfl rfl rfl) rfl (ltN rfl) (QP.indexAddr rfl rfl rfl Try.underlying22 z41 (by first | omega | (simp <;> omega)) (by first | omega | (simp <;> omega))) ?_
    refine Dw.read (i := 10) rfl (by kernel_rfl) (Want.yes rfl rfl rfl rfl) rfl (ltN rfl) (QR.loadSl rfl rfl g41 Entry.enc_len (SlAt.own Entry.enc_len (by repeat constructor)) hk) ?_
    refine Dw.pure (i := 11) rfl (by kernel_rfl) (Want.yes rfl rfl rfl rfl) rfl (ltN rfl) (QP.neq_agg eq41 rfl rfl rfl) ?_
    refine J.decF (by simp) ?_
    refine Dw.pure (i := 12) rfl (by kernel_rfl) (Want.none rfl) rfl (ltN rfl) (QP.pick_f rfl rfl rfl) ?_
    refine Dw.pure (i := 13) rfl (by kernel_rfl) (Want.none rfl) rfl (ltN rfl) (QP.move rfl rfl) ?_
    refine Dw.pure (i := 14) rfl (by kernel_rfl) (Want.yes rfl rfl rfl rfl) rfl (ltN rfl) (QP.move rfl rfl) ?_
    refine Dw.pure (i := 15) rfl (by kernel_rfl) (Want.yes rfl rfl rfl rfl) rfl (ltN rfl) (QP.gtr rfl rfl rfl) ?_
    refine J.caseD (fun c75 => ?_) (fun c75 => ?_)
    ·skip
     refine Dw.pure (i := 16) rfl (by kernel_rfl) (Want.yes rfl rfl rfl rfl) rfl (ltN rfl) (QP.move rfl rfl) ?_
     refine Dw.pure (i := 17) rfl (by kernel_rfl) (Want.yes rfl rfl rfl rfl) rfl (ltN rfl) (QP.move rfl rfl) ?_
     refine Dw.pure (i := 18) rfl (by kernel_rfl) (Want.yes rfl rfl rfl rfl) rfl (ltN rfl) (QP.move rfl rfl) ?_
     refine Dw.pure (i := 19) rfl (by kernel_rfl) (Want.yes rfl rfl rfl rfl) rfl (ltN rfl) (QP.sub64 rfl rfl rfl (by first | omega | (simp <;> omega)) (by first | omega | (simp <;> omega))) ?_
     obtain ⟨y, hj⟩ : ∃ y, L'[Int.toNat ((i : Int) - 1)]? = some y := ⟨_, List.getElem?_eq_getElem (by omega)⟩
     have hcmp : cmpPair y.pair x.pair < 0 := by
       obtain ⟨h1, rfl⟩ := List.getElem?_eq_some_iff.1 hj
       obtain ⟨h2, rfl⟩ := List.getElem?_eq_some_iff.1 hi
       exact List.pairwise_iff_getElem.1 hsort _ _ h1 h2 (by omega)
     refine Dw.pure (i := 20) rfl (by kernel_rfl) (Want.yes rfl rfl rfl rfl) rfl (ltN rfl) (QP.indexAddr rfl rfl rfl Try.underlying22 z41 (by first | omega | (simp <;> omega)) (by first | omega | (simp <;> omega))) ?_
     refine Dw.pure (i := 21) rfl (by kernel_rfl) (Want.yes rfl rfl rfl rfl) rfl (ltN rfl) (QP.fieldAddr rfl rfl f41_0) ?_
     refine Dw.read (i := 22) rfl (by kernel_rfl) (Want.yes rfl rfl rfl rfl) rfl (ltN rfl) (QR.loadSlF rfl rfl g39 Entry.enc_len (SlAt.own Entry.enc_len (by repeat constructor)) hj (Entry.sub_pair _)) ?_
     refine Dw.pure (i := 23) rfl (by kernel_rfl) (Want.yes rfl rfl rfl rfl) rfl (ltN rfl) (QP.move rfl rfl) ?_
     refine Dw.pure (i := 24) rfl (by kernel_rfl) (Want.yes rfl rfl rfl rfl) rfl (ltN rfl) (QP.move rfl rfl) ?_
     refine Dw.pure (i := 25) rfl (by kernel_rfl) (Want.yes rfl rfl rfl rfl) rfl (ltN rfl) (QP.indexAddr rfl rfl rfl Try.underlying22 z41 (by first | omega | (simp <;> omega)) (by first | omega | (simp <;> omega))) ?_
     refine Dw.pure (i := 26) rfl (by kernel_rfl) (Want.yes rfl rfl rfl rfl) rfl (ltN rfl) (QP.fieldAddr rfl rfl f41_0) ?_
     refine Dw.read (i := 27) rfl (by kernel_rfl) (Want.yes rfl rfl rfl rfl) rfl (ltN rfl) (QR.loadSlF rfl rfl g39 Entry.enc_len (SlAt.own Entry.enc_len (by repeat constructor)) hi (Entry.sub_pair _)) ?_
     refine Dw.eff (i := 28) (by kernel_rfl) (by kernel_rfl) ?_
     refine One.mk (o := _) (l := []) rfl (by kernel_rfl) (Want.yes rfl rfl rfl rfl) rfl (ltN rfl) (EF.call rfl ce34 rfl Takes.nil (fun F' hle hr => cmpPair_spec F' _ _)) (by kernel_rfl) ?_
     rintro _ _ ⟨_, ⟨rfl, rfl⟩, rfl⟩
     refine ⟨fun _ h => (by cases h), ?_⟩
     refine J.app ?_
     refine Dw.pure (i := 29) rfl (by kernel_rfl) (Want.yes rfl rfl rfl rfl) rfl (ltN rfl) (QP.geq rfl rfl rfl) ?_
     refine J.decF (by omega) ?_
     refine Dw.pure (i := 30) rfl (by kernel_rfl) (Want.yes rfl rfl rfl rfl) rfl (ltN rfl) (QP.pick_t rfl rfl rfl) ?_
     refine Dw.pure (i := 31) rfl (by kernel_rfl) (Want.none rfl) rfl (ltN rfl) (QP.pick_f rfl rfl rfl) ?_
     refine Dw.nil (by kernel_rfl) ?_
     refine hk25 _ _ ?_
     refine Run.cond_f rfl ?_
     refine Run.skip ?_
     refine hk23 _ _ ?_
     refine Run.region ?_
     show Sq _ _ _ [0, 1, 2] _ _ _ _
     refine Sq.quiet (i := 0) rfl (Want.none rfl) rfl (ltN rfl) (QP.move rfl rfl).read ?_
     refine Sq.quiet (i := 1) rfl (Want.none rfl) rfl (ltN rfl) (QP.add64 rfl rfl rfl (by first | omega | (simp <;> omega)) (by first | omega | (simp <;> omega))).read ?_
     refine Sq.quiet (i := 2) rfl (Want.none rfl) rfl (ltN rfl) (QP.assign rfl rfl).read ?_
     refine Sq.nil ?_
     exact J.envJ (J.keep (.cons (by repeat constructor) (.cons (by repeat constructor) Takes.nil)) (hl20 (i + 1) (by omega) (by omega))) ⟨rfl, rfl, rfl, trivial⟩
    ·skip
     refine Dw.pure (i := 16) rfl (by kernel_rfl) (Want.yes rfl rfl rfl rfl) rfl (ltN rfl) (QP.move rfl rfl) ?_
     refine Dw.skip (i := 17) rfl (by kernel_rfl) (Want.no rfl rfl rfl rfl) rfl (ltN rfl) ?_
     refine Dw.skip (i := 18) rfl (by kernel_rfl) (Want.no rfl rfl rfl rfl) rfl (ltN rfl) ?_
     refine Dw.skip (i := 19) rfl (by kernel_rfl) (Want.no rfl rfl rfl rfl) rfl (ltN rfl) ?_
     refine Dw.skip (i := 20) rfl (by kernel_rfl) (Want.no rfl rfl rfl rfl) rfl (ltN rfl) ?_
     refine Dw.skip (i := 21) rfl (by kernel_rfl) (Want.no rfl rfl rfl rfl) rfl (ltN rfl) ?_
     refine Dw.skip (i := 22) rfl (by kernel_rfl) (Want.no rfl rfl rfl rfl) rfl (ltN rfl) ?_
     refine Dw.skip (i := 23) rfl (by kernel_rfl) (Want.no rfl rfl rfl rfl) rfl (ltN rfl) ?_
     refine Dw.skip (i := 24) rfl (by kernel_rfl) (Want.no rfl rfl rfl rfl) rfl (ltN rfl) ?_
     refine Dw.skip (i := 25) rfl (by kernel_rfl) (Want.no rfl rfl rfl rfl) rfl (ltN rfl) ?_
     refine Dw.skip (i := 26) rfl (by kernel_rfl) (Want.no rfl rfl rfl rfl) rfl (ltN rfl) ?_
     refine Dw.skip (i := 27) rfl (by kernel_rfl) (Want.no rfl rfl rfl rfl) rfl (ltN rfl) ?_
     refine Dw.eff (i := 28) (by kernel_rfl) (by kernel_rfl) ?_
     refine One.skipD (o := _) rfl (by kernel_rfl) (Want.no rfl rfl rfl rfl) rfl (ltN rfl) ?_
     refine Dw.skip (i := 29) rfl (by kernel_rfl) (Want.no rfl rfl rfl rfl) rfl (ltN rfl) ?_
     refine Dw.pure (i := 30) rfl (by kernel_rfl) (Want.yes rfl rfl rfl rfl) rfl (ltN rfl) (QP.pick_f rfl rfl rfl) ?_
     refine Dw.pure (i := 31) rfl (by kernel_rfl) (Want.none rfl) rfl (ltN rfl) (QP.pick_f rfl rfl rfl) ?_
     refine Dw.nil (by kernel_rfl) ?_
     refine hk25 _ _ ?_
     refine Run.cond_f rfl ?_
     refine Run.skip ?_
     refine hk23 _ _ ?_
     refine Run.region ?_
     show Sq _ _ _ [0, 1, 2] _ _ _ _
     refine Sq.quiet (i := 0) rfl (Want.none rfl) rfl (ltN rfl) (QP.move rfl rfl).read ?_
     refine Sq.quiet (i := 1) rfl (Want.none rfl) rfl (ltN rfl) (QP.add64 rfl rfl rfl (by first | omega | (simp <;> omega)) (by first | omega | (simp <;> omega))).read ?_
     refine Sq.quiet (i := 2) rfl (Want.none rfl) rfl (ltN rfl) (QP.assign rfl rfl).read ?_
     refine Sq.nil ?_
     exact J.envJ (J.keep (.cons (by repeat constructor) (.cons (by repeat constructor) Takes.nil)) (hl20 (i + 1) (by omega) (by omega))) ⟨rfl, rfl, rfl, trivial⟩
   ·skip
    refine Sq.nil ?_
    refine hk22 _ _ ?_
    refine Run.cond_f rfl ?_
    refine Run.exit rfl ?_
    refine hk18 _ _ ?_
    refine Run.seq fun k26 hk26 => ?_
    refine Run.region ?_
    show Sq _ _ _ [0, 1, 2, 3, 4, 5, 6, 7, 8] _ _ _ _
    refine Sq.quiet (i := 0) rfl (Want.none rfl) rfl (ltN rfl) (QP.move rfl rfl).read ?_
    refine Sq.quiet (i := 1) rfl (Want.none rfl) rfl (ltN rfl) (QP.len rfl rfl rfl Try.underlying22).read ?_
    refine Sq.quiet (i := 2) rfl (Want.none rfl) rfl (ltN rfl) (QP.move rfl rfl).read ?_
    refine Sq.quiet (i := 3) rfl (Want.none rfl) rfl (ltN rfl) (QP.len rfl rfl rfl Try.underlying22).read ?_
    refine Sq.quiet (i := 4) rfl (Want.none rfl) rfl (ltN rfl) (QP.eql rfl rfl rfl).read ?_
    refine J.decT (by omega) ?_
    refine Sq.quiet (i := 5) rfl (Want.none rfl) rfl (ltN rfl) (QP.move rfl rfl).read ?_
    refine Sq.eff (i := 6) rfl (Want.yes rfl rfl rfl rfl) rfl (ltN rfl) (EF.call rfl ce10 rfl Takes.nil (fun F' hle hr => live_spec F')) ?_
    rintro _ _ ⟨_, ⟨rfl, rfl⟩, rfl⟩
    refine J.app ?_
    refine Sq.quiet (i := 7) rfl (Want.none rfl) rfl (ltN rfl) (QP.pick_t rfl rfl rfl).read ?_
    refine Sq.quiet (i := 8) rfl (Want.none rfl) rfl (ltN rfl) (QP.assign rfl rfl).read ?_
    refine Sq.nil ?_
    refine hk26 _ _ ?_
    refine Run.ret ?_
    exact J.ends (res_tmp rfl rfl) Takes.nil ⟨rfl, rfl⟩
end Slb
