/- A9: a part of the proof that a law of this package holds for every input; no condition. -/
import Derived.Test.YtjieokfcpbillaaA8
import Derived.Test.YtjieokfcpbillaaB32
import Derived.Test.YtjieokfcpbillaaB22
namespace Slb
open Go Go.Proofs
set_option maxRecDepth 20000
def ok41 (F : Fr) (x : Law21Act) : Prop := x.WF ∧ SlIn F 44 Offer.enc (fun x => x.WF) x.l

def idF : Bs 8 := ⟨[255, 255, 255, 255, 255, 255, 255, 255], rfl⟩
def okO (o : Offer) : Prop := o.metric ≠ 65535 → o.id_ ≠ Bs.zero 8 ∧ o.id_ ≠ idF
/-- What an act's slice holds. -/
def Holds (F : Fr) (xs : List Law21Act) (O : Law21Act → List Offer) : Prop := ∀ x ∈ xs, x.l.n = (O x).length ∧ (O x).length ≤ maxLen ∧ ArgSl F x.l.a 44 Offer.enc (O x) ∧ ∀ o ∈ O x, o.WF
theorem Holds.of {F : Fr} {xs : List Law21Act} (h : ∀ x ∈ xs, ok41 F x) : ∃ O, Holds F xs O := by
  classical
  refine ⟨fun x => if hx : x ∈ xs then Classical.choose (h x hx).2 else [], fun x hx => ?_⟩
  simp only [dif_pos hx]
  have := Classical.choose_spec (h x hx).2
  exact ⟨this.1, this.2.1, this.2.2.1, this.2.2.2⟩
theorem Holds.mono {F F' : Fr} {xs : List Law21Act} {O : Law21Act → List Offer} (h : Holds F xs O) (hle : PH.le F.h F'.h) : Holds F' xs O := fun x hx => by
  obtain ⟨a, b, c, d⟩ := h x hx
  exact ⟨a, b, c.mono hle, d⟩
def OffersP (O : Law21Act → List Offer) (xs : List Law21Act) : Prop := xs.length ≤ 150 ∧ ∀ x ∈ xs, (O x).length ≤ 150 ∧ ∀ o ∈ O x, okO o
theorem take_not {α : Type} {L : List α} {i : Nat} {x : α} {q : α → Prop} (h : ∀ y ∈ L.take i, q y) (hi : L[i]? = some x) (hx : q x) : ∀ y ∈ L.take (i + 1), q y := fun y hy => by
  rw [take_succ_get hi] at hy
  rcases List.mem_append.1 hy with hy | hy
  · exact h y hy
  · simp at hy; subst hy; exact hx

theorem offers_spec (F : Fr) {a : Option Addr} {c : Nat} {xs : List Law21Act} (hc : xs.length ≤ 9223372036854775807) (ha : ArgSl F a 3 Law21Act.enc xs) {O : Law21Act → List Offer} (hO : Holds F xs O)  : Spec Try.prog 7 #[.slice a xs.length c] [] F (fun v S => ∃ r, v = .bool r ∧ (r = true → OffersP O xs) ∧ S = []) := by
 refine Spec.intro (N := 65) (args := [.slice a xs.length c]) Try.func7 rfl rfl (by simp) ?_
 refine Run.seq fun k1 hk1 => ?_
 refine Run.region ?_
 show Sq _ _ _ [0] _ _ _ _
 refine Sq.quiet (i := 0) rfl (Want.none rfl) rfl (ltN rfl) (QP.assign rfl rfl).read ?_
 refine Sq.nil ?_
 refine hk1 _ _ ?_
 refine Run.seq fun k2 hk2 => ?_
 refine Run.seq fun k3 hk3 => ?_
 refine Run.region ?_
 show Sq _ _ _ [0] _ _ _ _
 refine Sq.quiet (i := 0) rfl (Want.none rfl) rfl (ltN rfl) (QP.assign rfl rfl).read ?_
 refine Sq.nil ?_
 refine hk3 _ _ ?_
 refine Run.block ?_
 refine Run.loop1 (fun (i : Nat) => i ≤ xs.length ∧ i ≤ 151 ∧ ∀ x ∈ xs.take i, (O x).length ≤ 150 ∧ ∀ o ∈ O x, okO o) (fun i => .cons 0 (.slice a xs.length c) (.cons 3 (.int .i64 i) (.nil))) (fun i => []) (fun i => xs.length - i) (0) (⟨Nat.zero_le _, Nat.zero_le _, by simp⟩) ?_ ?_
 ·exact fun _ j => J.envJ (J.keep Takes.nil j) ⟨rfl, rfl, trivial⟩
 rintro i ⟨hile, hi1, hall⟩ kl4 hl4
 refine Run.seq fun k5 hk5 => ?_
 refine Run.seq fun k6 hk6 => ?_
 refine Run.region ?_
 show Sq _ _ _ [0, 1, 2, 3, 4, 5, 6, 7] _ _ _ _
 refine Sq.quiet (i := 0) rfl (Want.none rfl) rfl (ltN rfl) (QP.move rfl rfl).read ?_
 refine Sq.quiet (i := 1) rfl (Want.none rfl) rfl (ltN rfl) (QP.move rfl rfl).read ?_
 refine Sq.quiet (i := 2) rfl (Want.none rfl) rfl (ltN rfl) (QP.len rfl rfl rfl Try.underlying28).read ?_
 refine Sq.quiet (i := 3) rfl (Want.none rfl) rfl (ltN rfl) (QP.lss rfl rfl rfl).read ?_
 refine J.caseD (fun c9 => ?_) (fun c9 => ?_)
 ·skip
  refine Sq.quiet (i := 4) rfl (Want.none rfl) rfl (ltN rfl) (QP.move rfl rfl).read ?_
  refine Sq.quiet (i := 5) rfl (Want.yes rfl rfl rfl rfl) rfl (ltN rfl) (QP.move rfl rfl).read ?_
  refine Sq.quiet (i := 6) rfl (Want.yes rfl rfl rfl rfl) rfl (ltN rfl) (QP.leq rfl rfl rfl).read ?_
  refine J.caseD (fun c12 => ?_) (fun c12 => ?_)
  ·skip
   refine Sq.quiet (i := 7) rfl (Want.none rfl) rfl (ltN rfl) (QP.pick_t rfl rfl rfl).read ?_
   refine Sq.nil ?_
   refine hk6 _ _ ?_
   refine Run.cond_t rfl ?_
   refine Run.skip ?_
   refine hk5 _ _ ?_
   refine Run.seq fun k7 hk7 => ?_
   refine Run.block ?_
   refine Run.seq fun k8 hk8 => ?_
   refine Run.seq fun k9 hk9 => ?_
   refine Run.region ?_
   show Sq _ _ _ [0, 1, 2, 3, 4, 5, 6] _ _ _ _
   have hlt : i < xs.length := by omega
   obtain ⟨x, hi⟩ : ∃ x, xs[i]? = some x := ⟨_, List.getElem?_eq_getElem hlt⟩
   obtain ⟨b0, o0, rfl, hs0⟩ := ha.get (by omega)
   obtain ⟨hn, hol, hoa, how⟩ := hO x (List.mem_of_getElem? hi)
   generalize hos : O x = os at hn hol hoa how
   have hlv : Slc.v x.l = .slice x.l.a os.length x.l.c := by rw [← hn]; rfl
   have hom : os.length ≤ 9223372036854775807 := Nat.le_trans hol (by decide)
   refine Sq.quiet (i := 0) rfl (Want.none rfl) rfl (ltN rfl) (QP.move rfl rfl).read ?_
   refine Sq.quiet (i := 1) rfl (Want.none rfl) rfl (ltN rfl) (QP.move rfl rfl).read ?_
   refine Sq.quiet (i := 2) rfl (Want.none rfl) rfl (ltN rfl) (QP.indexAddr rfl rfl rfl Try.underlying28 z41 (by first | omega | (simp <;> omega)) (by first | omega | (simp <;> omega))).read ?_
   refine Sq.quiet (i := 3) rfl (Want.none rfl) rfl (ltN rfl) (QP.fieldAddr rfl rfl f41_2).read ?_
   refine Sq.quiet (i := 4) rfl (Want.none rfl) rfl (ltN rfl) (QR.loadSlF1 rfl rfl g39 Law21Act.enc_len (hs0 _) hi (Law21Act.sub_l _)) ?_
   rw [hlv]
   refine Sq.quiet (i := 5) rfl (Want.none rfl) rfl (ltN rfl) (QP.len rfl rfl rfl Try.underlying39).read ?_
   refine Sq.quiet (i := 6) rfl (Want.none rfl) rfl (ltN rfl) (QP.gtr rfl rfl rfl).read ?_
   refine J.caseD (fun c22 => ?_) (fun c22 => ?_)
   ·skip
    refine Sq.nil ?_
    refine hk9 _ _ ?_
    refine Run.cond_t rfl ?_
    refine Run.seq fun k10 hk10 => ?_
    refine Run.region ?_
    show Sq _ _ _ [0] _ _ _ _
    refine Sq.quiet (i := 0) rfl (Want.none rfl) rfl (ltN rfl) (QP.assign rfl rfl).read ?_
    refine Sq.nil ?_
    refine hk10 _ _ ?_
    refine Run.ret ?_
    exact J.ends (res_tmp rfl rfl) Takes.nil ⟨false, rfl, fun h => (by cases h), rfl⟩
   ·skip
    refine Sq.nil ?_
    refine hk9 _ _ ?_
    refine Run.cond_f rfl ?_
    refine Run.skip ?_
    refine hk8 _ _ ?_
    refine Run.seq fun k11 hk11 => ?_
    refine Run.region ?_
    show Sq _ _ _ [0] _ _ _ _
    refine Sq.quiet (i := 0) rfl (Want.none rfl) rfl (ltN rfl) (QP.assign rfl rfl).read ?_
    refine Sq.nil ?_
    refine hk11 _ _ ?_
    refine Run.block ?_
    refine Run.loop1 (fun (j : Nat) => j ≤ os.length ∧ ∀ o ∈ os.take j, okO o) (fun j => .cons 0 (.slice (some ⟨b0, o0, none⟩) xs.length c) (.cons 3 (.int .i64 i) (.cons 4 (.int .i64 j) (.nil)))) (fun j => []) (fun j => os.length - j) (0) (⟨Nat.zero_le _, by simp⟩) ?_ ?_
    ·exact fun _ j => J.envJ (J.keep Takes.nil j) ⟨rfl, rfl, rfl, trivial⟩
    rintro j ⟨hjle, hj2⟩ kl12 hl12
    refine Run.seq fun k13 hk13 => ?_
    refine Run.seq fun k14 hk14 => ?_
    refine Run.region ?_
    show Sq _ _ _ [0, 1, 2, 3, 4, 5, 6, 7] _ _ _ _
    refine Sq.quiet (i := 0) rfl (Want.none rfl) rfl (ltN rfl) (QP.move rfl rfl).read ?_
    refine Sq.quiet (i := 1) rfl (Want.none rfl) rfl (ltN rfl) (QP.move rfl rfl).read ?_
    refine Sq.quiet (i := 2) rfl (Want.none rfl) rfl (ltN rfl) (QP.move rfl rfl).read ?_
    refine Sq.quiet (i := 3) rfl (Want.none rfl) rfl (ltN rfl) (QP.indexAddr rfl rfl rfl Try.underlying28 z41 (by first | omega | (simp <;> omega)) (by first | omega | (simp <;> omega))).read ?_
    refine Sq.quiet (i := 4) rfl (Want.none rfl) rfl (ltN rfl) (QP.fieldAddr rfl rfl f41_2).read ?_
    refine Sq.quiet (i := 5) rfl (Want.none rfl) rfl (ltN rfl) (QR.loadSlF1 rfl rfl g39 Law21Act.enc_len (hs0 _) hi (Law21Act.sub_l _)) ?_
    rw [hlv]
    refine Sq.quiet (i := 6) rfl (Want.none rfl) rfl (ltN rfl) (QP.len rfl rfl rfl Try.underlying39).read ?_
    refine Sq.quiet (i := 7) rfl (Want.none rfl) rfl (ltN rfl) (QP.lss rfl rfl rfl).read ?_
    refine J.caseD (fun c30 => ?_) (fun c30 => ?_)
    ·skip
     refine Sq.nil ?_
     refine hk14 _ _ ?_
     refine Run.cond_t rfl ?_
     refine Run.skip ?_
     refine hk13 _ _ ?_
     refine Run.seq fun k15 hk15 => ?_
     refine Run.block ?_
     refine Run.seq fun k16 hk16 => ?_
     refine Run.region ?_
     show Sq _ _ _ [0, 1, 2, 3, 4, 5, 6, 7, 8, 9, 10] _ _ _ _
     obtain ⟨o, hj⟩ : ∃ o, os[j]? = some o := ⟨_, List.getElem?_eq_getElem (by omega)⟩
     obtain ⟨b1, o1, hla, hs1⟩ := hoa.get (by omega)
     rw [hla] at hlv
     refine Sq.quiet (i := 0) rfl (Want.none rfl) rfl (ltN rfl) (QP.move rfl rfl).read ?_
     refine Sq.quiet (i := 1) rfl (Want.none rfl) rfl (ltN rfl) (QP.move rfl rfl).read ?_
     refine Sq.quiet (i := 2) rfl (Want.none rfl) rfl (ltN rfl) (QP.indexAddr rfl rfl rfl Try.underlying28 z41 (by first | omega | (simp <;> omega)) (by first | omega | (simp <;> omega))).read ?_
     refine Sq.quiet (i := 3) rfl (Want.none rfl) rfl (ltN rfl) (QP.fieldAddr rfl rfl f41_2).read ?_
     refine Sq.quiet (i := 4) rfl (Want.none rfl) rfl (ltN rfl) (QR.loadSlF1 rfl rfl g39 Law21Act.enc_len (hs0 _) hi (Law21Act.sub_l _)) ?_
     rw [hlv]
     refine Sq.quiet (i := 5) rfl (Want.none rfl) rfl (ltN rfl) (QP.move rfl rfl).read ?_
     refine Sq.quiet (i := 6) rfl (Want.none rfl) rfl (ltN rfl) (QP.indexAddr rfl rfl rfl Try.underlying39 z60 (by first | omega | (simp <;> omega)) (by first | omega | (simp <;> omega))).read ?_
     refine Sq.quiet (i := 7) rfl (Want.none rfl) rfl (ltN rfl) (QP.fieldAddr rfl rfl f60_1).read ?_
     refine Sq.quiet (i := 8) rfl (Want.none rfl) rfl (ltN rfl) (QR.loadSlF rfl rfl g48 Offer.enc_len (hs1 _) hj (Offer.sub_id_ _)) ?_
     refine Sq.eff (i := 9) rfl (Want.none rfl) rfl (ltN rfl) (EF.allocA (l := (Bs.zero 8).enc) rfl zero48) ?_
     rintro _ _ ⟨b5, rfl, rfl⟩
     refine Sq.act (i := 10) rfl (Want.none rfl) rfl (EF.storeA rfl rfl rfl z48 (SetL.all (Bs.len _) (Bs.len _)) (Bs.cell _)) ?_
     rintro _ _ rfl
     refine Sq.nil ?_
     refine hk16 _ _ ?_
     refine Run.seq fun k17 hk17 => ?_
     refine Run.region ?_
     show Sq _ _ _ [0, 1, 2, 3, 4, 5, 6, 7, 8, 9, 10, 11, 12, 13, 14, 15, 16, 17, 18, 19] _ _ _ _
     refine Sq.quiet (i := 0) rfl (Want.none rfl) rfl (ltN rfl) (QP.move rfl rfl).read ?_
     refine Sq.quiet (i := 1) rfl (Want.none rfl) rfl (ltN rfl) (QP.move rfl rfl).read ?_
     refine Sq.quiet (i := 2) rfl (Want.none rfl) rfl (ltN rfl) (QP.indexAddr rfl rfl rfl Try.underlying28 z41 (by first | omega | (simp <;> omega)) (by first | omega | (simp <;> omega))).read ?_
     refine Sq.quiet (i := 3) rfl (Want.none rfl) rfl (ltN rfl) (QP.fieldAddr rfl rfl f41_2).read ?_
     refine Sq.quiet (i := 4) rfl (Want.none rfl) rfl (ltN rfl) (QR.loadSlF1 rfl rfl g39 Law21Act.enc_len (hs0 _) hi (Law21Act.sub_l _)) ?_
     rw [hlv]
     refine Sq.quiet (i := 5) rfl (Want.none rfl) rfl (ltN rfl) (QP.move rfl rfl).read ?_
     refine Sq.quiet (i := 6) rfl (Want.none rfl) rfl (ltN rfl) (QP.indexAddr rfl rfl rfl Try.underlying39 z60 (by first | omega | (simp <;> omega)) (by first | omega | (simp <;> omega))).read ?_
     refine Sq.quiet (i := 7) rfl (Want.none rfl) rfl (ltN rfl) (QP.fieldAddr rfl rfl f60_3).read ?_
     refine Sq.quiet (i := 8) rfl (Want.none rfl) rfl (ltN rfl) (QR.loadSlF1 rfl rfl g46 Offer.enc_len (hs1 _) hj (Offer.sub_metric _)) ?_
     refine Sq.quiet (i := 9) rfl (Want.none rfl) rfl (ltN rfl) (QP.neq rfl rfl rfl).read ?_
     refine J.caseD (fun c51 => ?_) (fun c51 => ?_)
     ·skip
      refine Sq.quiet (i := 10) rfl (Want.none rfl) rfl (ltN rfl) (QP.move rfl rfl).read ?_
      refine Sq.quiet (i := 11) rfl (Want.yes rfl rfl rfl rfl) rfl (ltN rfl) (QR.load rfl rfl g48 (Bs.sub _)) ?_
      refine Sq.quiet (i := 12) rfl (Want.yes rfl rfl rfl rfl) rfl (ltN rfl) (QP.const (.agg (Bs.enc (⟨[0, 0, 0, 0, 0, 0, 0, 0], rfl⟩ : Bs 8)).toArray) (fun _ _ => by kernel_rfl)).read ?_
      refine Sq.quiet (i := 13) rfl (Want.yes rfl rfl rfl rfl) rfl (ltN rfl) (QP.eql_agg eq48 rfl rfl rfl).read ?_
      refine J.caseD (fun c55 => ?_) (fun c55 => ?_)
      ·skip
       refine Sq.quiet (i := 14) rfl (Want.yes rfl rfl rfl rfl) rfl (ltN rfl) (QP.move rfl rfl).read ?_
       refine Sq.skip (i := 15) rfl (Want.no rfl rfl rfl rfl) rfl (ltN rfl) ?_
       refine Sq.skip (i := 16) rfl (Want.no rfl rfl rfl rfl) rfl (ltN rfl) ?_
       refine Sq.skip (i := 17) rfl (Want.no rfl rfl rfl rfl) rfl (ltN rfl) ?_
       refine Sq.quiet (i := 18) rfl (Want.yes rfl rfl rfl rfl) rfl (ltN rfl) (QP.pick_t rfl rfl rfl).read ?_
       refine Sq.quiet (i := 19) rfl (Want.none rfl) rfl (ltN rfl) (QP.pick_t rfl rfl rfl).read ?_
       refine Sq.nil ?_
       refine hk17 _ _ ?_
       refine Run.cond_t rfl ?_
       refine Run.seq fun k18 hk18 => ?_
       refine Run.region ?_
       show Sq _ _ _ [0] _ _ _ _
       refine Sq.quiet (i := 0) rfl (Want.none rfl) rfl (ltN rfl) (QP.assign rfl rfl).read ?_
       refine Sq.nil ?_
       refine hk18 _ _ ?_
       refine Run.ret ?_
       exact J.ends (res_tmp rfl rfl) Takes.nil ⟨false, rfl, fun h => (by cases h), rfl⟩
      ·skip
       refine Sq.quiet (i := 14) rfl (Want.yes rfl rfl rfl rfl) rfl (ltN rfl) (QP.move rfl rfl).read ?_
       refine Sq.quiet (i := 15) rfl (Want.yes rfl rfl rfl rfl) rfl (ltN rfl) (QR.load rfl rfl g48 (Bs.sub _)) ?_
       refine Sq.quiet (i := 16) rfl (Want.yes rfl rfl rfl rfl) rfl (ltN rfl) (QP.const (.agg (Bs.enc (⟨[255, 255, 255, 255, 255, 255, 255, 255], rfl⟩ : Bs 8)).toArray) (fun _ _ => by kernel_rfl)).read ?_
       refine Sq.quiet (i := 17) rfl (Want.yes rfl rfl rfl rfl) rfl (ltN rfl) (QP.eql_agg eq48 rfl rfl rfl).read ?_
       refine J.caseD (fun c59 => ?_) (fun c59 => ?_)
       ·skip
        refine Sq.quiet (i := 18) rfl (Want.yes rfl rfl rfl rfl) rfl (ltN rfl) (QP.pick_f rfl rfl rfl).read ?_
        refine Sq.quiet (i := 19) rfl (Want.none rfl) rfl (ltN rfl) (QP.pick_t rfl rfl rfl).read ?_
        refine Sq.nil ?_
        refine hk17 _ _ ?_
        refine Run.cond_t rfl ?_
        refine Run.seq fun k19 hk19 => ?_
        refine Run.region ?_
        show Sq _ _ _ [0] _ _ _ _
        refine Sq.quiet (i := 0) rfl (Want.none rfl) rfl (ltN rfl) (QP.assign rfl rfl).read ?_
        refine Sq.nil ?_
        refine hk19 _ _ ?_
        refine Run.ret ?_
        exact J.ends (res_tmp rfl rfl) Takes.nil ⟨false, rfl, fun h => (by cases h), rfl⟩
       ·skip
        refine Sq.quiet (i := 18) rfl (Want.yes rfl rfl rfl rfl) rfl (ltN rfl) (QP.pick_f rfl rfl rfl).read ?_
        refine Sq.quiet (i := 19) rfl (Want.none rfl) rfl (ltN rfl) (QP.pick_t rfl rfl rfl).read ?_
        refine Sq.nil ?_
        refine hk17 _ _ ?_
        refine Run.cond_f rfl ?_
        refine Run.skip ?_
        refine hk15 _ _ ?_
        refine Run.region ?_
        show Sq _ _ _ [0, 1, 2] _ _ _ _
        refine Sq.quiet (i := 0) rfl (Want.none rfl) rfl (ltN rfl) (QP.move rfl rfl).read ?_
        refine Sq.quiet (i := 1) rfl (Want.none rfl) rfl (ltN rfl) (QP.add64 rfl rfl rfl (by first | omega | (simp <;> omega)) (by first | omega | (simp <;> omega))).read ?_
        refine Sq.quiet (i := 2) rfl (Want.none rfl) rfl (ltN rfl) (QP.assign rfl rfl).read ?_
        refine Sq.nil ?_
        exact J.envJ (J.keep Takes.nil (hl12 (j + 1) (⟨by omega, take_not hj2 hj (fun _ => ⟨c55, c59⟩)⟩) (by omega))) ⟨rfl, rfl, rfl, trivial⟩
     ·skip
      refine Sq.quiet (i := 10) rfl (Want.none rfl) rfl (ltN rfl) (QP.move rfl rfl).read ?_
      refine Sq.skip (i := 11) rfl (Want.no rfl rfl rfl rfl) rfl (ltN rfl) ?_
      refine Sq.skip (i := 12) rfl (Want.no rfl rfl rfl rfl) rfl (ltN rfl) ?_
      refine Sq.skip (i := 13) rfl (Want.no rfl rfl rfl rfl) rfl (ltN rfl) ?_
      refine Sq.skip (i := 14) rfl (Want.no rfl rfl rfl rfl) rfl (ltN rfl) ?_
      refine Sq.skip (i := 15) rfl (Want.undef rfl rfl rfl) rfl (ltN rfl) ?_
      refine Sq.skip (i := 16) rfl (Want.undef rfl rfl rfl) rfl (ltN rfl) ?_
      refine Sq.skip (i := 17) rfl (Want.undef rfl rfl rfl) rfl (ltN rfl) ?_
      refine Sq.skip (i := 18) rfl (Want.no rfl rfl rfl rfl) rfl (ltN rfl) ?_
      refine Sq.quiet (i := 19) rfl (Want.none rfl) rfl (ltN rfl) (QP.pick_f rfl rfl rfl).read ?_
      refine Sq.nil ?_
      refine hk17 _ _ ?_
      refine Run.cond_f rfl ?_
      refine Run.skip ?_
      refine hk15 _ _ ?_
      refine Run.region ?_
      show Sq _ _ _ [0, 1, 2] _ _ _ _
      refine Sq.quiet (i := 0) rfl (Want.none rfl) rfl (ltN rfl) (QP.move rfl rfl).read ?_
      refine Sq.quiet (i := 1) rfl (Want.none rfl) rfl (ltN rfl) (QP.add64 rfl rfl rfl (by first | omega | (simp <;> omega)) (by first | omega | (simp <;> omega))).read ?_
      refine Sq.quiet (i := 2) rfl (Want.none rfl) rfl (ltN rfl) (QP.assign rfl rfl).read ?_
      refine Sq.nil ?_
      exact J.envJ (J.keep Takes.nil (hl12 (j + 1) (⟨by omega, take_not hj2 hj (fun h => absurd h c51)⟩) (by omega))) ⟨rfl, rfl, rfl, trivial⟩
    ·skip
     refine Sq.nil ?_
     refine hk14 _ _ ?_
     refine Run.cond_f rfl ?_
     refine Run.exit rfl ?_
     refine hk7 _ _ ?_
     refine Run.region ?_
     show Sq _ _ _ [0, 1, 2] _ _ _ _
     refine Sq.quiet (i := 0) rfl (Want.none rfl) rfl (ltN rfl) (QP.move rfl rfl).read ?_
     refine Sq.quiet (i := 1) rfl (Want.none rfl) rfl (ltN rfl) (QP.add64 rfl rfl rfl (by first | omega | (simp <;> omega)) (by first | omega | (simp <;> omega))).read ?_
     refine Sq.quiet (i := 2) rfl (Want.none rfl) rfl (ltN rfl) (QP.assign rfl rfl).read ?_
     refine Sq.nil ?_
     exact J.envJ (J.keep Takes.nil (hl4 (i + 1) (⟨by omega, by omega, take_not hall hi (by rw [hos]; exact ⟨by omega, by rw [List.take_of_length_le (by omega)] at hj2; exact hj2⟩)⟩) (by omega))) ⟨rfl, rfl, trivial⟩
  ·skip
   refine Sq.quiet (i := 7) rfl (Want.none rfl) rfl (ltN rfl) (QP.pick_t rfl rfl rfl).read ?_
   refine Sq.nil ?_
   refine hk6 _ _ ?_
   refine Run.cond_f rfl ?_
   refine Run.exit rfl ?_
   refine hk2 _ _ ?_
   refine Run.seq fun k20 hk20 => ?_
   refine Run.region ?_
   show Sq _ _ _ [0, 1, 2, 3] _ _ _ _
   refine Sq.quiet (i := 0) rfl (Want.none rfl) rfl (ltN rfl) (QP.move rfl rfl).read ?_
   refine Sq.quiet (i := 1) rfl (Want.none rfl) rfl (ltN rfl) (QP.len rfl rfl rfl Try.underlying28).read ?_
   refine Sq.quiet (i := 2) rfl (Want.none rfl) rfl (ltN rfl) (QP.leq rfl rfl rfl).read ?_
   refine Sq.quiet (i := 3) rfl (Want.none rfl) rfl (ltN rfl) (QP.assign rfl rfl).read ?_
   refine Sq.nil ?_
   refine hk20 _ _ ?_
   refine Run.ret ?_
   exact J.ends (res_tmp rfl rfl) Takes.nil ⟨_, rfl, fun h => ⟨by have := of_decide_eq_true h; omega, by have := of_decide_eq_true h; rw [List.take_of_length_le (by omega)] at hall; exact hall⟩, rfl⟩
 ·skip
  refine Sq.quiet (i := 4) rfl (Want.none rfl) rfl (ltN rfl) (QP.move rfl rfl).read ?_
  refine Sq.skip (i := 5) rfl (Want.no rfl rfl rfl rfl) rfl (ltN rfl) ?_
  refine Sq.skip (i := 6) rfl (Want.no rfl rfl rfl rfl) rfl (ltN rfl) ?_
  refine Sq.quiet (i := 7) rfl (Want.none rfl) rfl (ltN rfl) (QP.pick_f rfl rfl rfl).read ?_
  refine Sq.nil ?_
  refine hk6 _ _ ?_
  refine Run.cond_f rfl ?_
  refine Run.exit rfl ?_
  refine hk2 _ _ ?_
  refine Run.seq fun k21 hk21 => ?_
  refine Run.region ?_
  show Sq _ _ _ [0, 1, 2, 3] _ _ _ _
  refine Sq.quiet (i := 0) rfl (Want.none rfl) rfl (ltN rfl) (QP.move rfl rfl).read ?_
  refine Sq.quiet (i := 1) rfl (Want.none rfl) rfl (ltN rfl) (QP.len rfl rfl rfl Try.underlying28).read ?_
  refine Sq.quiet (i := 2) rfl (Want.none rfl) rfl (ltN rfl) (QP.leq rfl rfl rfl).read ?_
  refine Sq.quiet (i := 3) rfl (Want.none rfl) rfl (ltN rfl) (QP.assign rfl rfl).read ?_
  refine Sq.nil ?_
  refine hk21 _ _ ?_
  refine Run.ret ?_
  exact J.ends (res_tmp rfl rfl) Takes.nil ⟨_, rfl, fun h => ⟨by have := of_decide_eq_true h; omega, by have := of_decide_eq_true h; rw [List.take_of_length_le (by omega)] at hall; exact hall⟩, rfl⟩
end Slb
