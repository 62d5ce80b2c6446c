/- X3: a part of the proof that a law of this package holds for every input; no condition. -/
import Derived.Test.YtanlgpdpjgpmfaaX2
namespace Slb
open Go Go.Proofs
set_option maxRecDepth 20000
def impOk (M1 M2 : TabE) (e : Entry) : Bool := !(alook M1 e.pair).isSome && (!(alook M2 e.pair).isSome && checkPairB e.pair)
def impK (M1 M2 : TabE) (e : Entry) : TabE := if impOk M1 M2 e then aset M2 e.pair e else M2
theorem impK_yes {M1 M2 : TabE} {e : Entry} (h : impOk M1 M2 e = true) : impK M1 M2 e = aset M2 e.pair e := by unfold impK; rw [if_pos h]
theorem impK_no {M1 M2 : TabE} {e : Entry} (h : impOk M1 M2 e = false) : impK M1 M2 e = M2 := by unfold impK; rw [if_neg (by rw [h]; simp)]
theorem impK_len (M1 M2 : TabE) (e : Entry) : (impK M1 M2 e).length = M2.length + if impOk M1 M2 e then 1 else 0 := by
  unfold impK
  split
  · rename_i h
    have h2 : (alook M2 e.pair).isSome = false := by
      unfold impOk at h
      cases hq : (alook M2 e.pair).isSome with
      | false => rfl
      | true => rw [hq] at h; simp at h
    rw [len_aset, h2]
    simp
  · simp
theorem imp_len (M1 : TabE) (xs : List Entry) : ∀ M2 : TabE, M2.length ≤ (xs.foldl (impK M1) M2).length ∧ (xs.foldl (impK M1) M2).length ≤ M2.length + xs.length := by
  induction xs with
  | nil => intro M2; simp
  | cons e xs ih =>
    intro M2
    have h1 := impK_len M1 M2 e
    have h2 := ih (impK M1 M2 e)
    simp only [List.foldl_cons, List.length_cons]
    split at h1 <;> omega

/-- What all entries of a table are like. -/
structure GoodE (M : TabE) : Prop where
  keyed : ∀ e ∈ M, e.1 = e.2.pair
  nodup : (M.map (·.1)).Nodup
  ok : ∀ e ∈ M, checkPairB e.1 = true
theorem GoodE.nil : GoodE [] := ⟨by simp, by simp, by simp⟩
theorem GoodE.set {M : TabE} (h : GoodE M) {e : Entry} (he : checkPairB e.pair = true) : GoodE (aset M e.pair e) :=
  ⟨InOrder.keyed_set rfl h.keyed, nodup_set h.nodup _ _, fun x hx => by
    rcases mem_aset hx with rfl | hx
    · exact he
    · exact h.ok x hx⟩
theorem GoodE.imp {M1 M2 : TabE} (h : GoodE M2) (e : Entry) : GoodE (impK M1 M2 e) := by
  cases hq : impOk M1 M2 e with
  | false => rw [impK_no hq]; exact h
  | true =>
    rw [impK_yes hq]
    refine h.set ?_
    unfold impOk at hq
    simp only [Bool.and_eq_true] at hq
    exact hq.2.2
theorem GoodE.imps {M1 : TabE} (xs : List Entry) : ∀ {M2 : TabE}, GoodE M2 → GoodE (xs.foldl (impK M1) M2) := by
  induction xs with
  | nil => exact fun h => h
  | cons e xs ih => exact fun h => ih (h.imp e)
theorem GoodE.ord {M : TabE} (h : GoodE M) : ∃ L, OrdE M L := ord_ex keyCmpE M.length rfl h.keyed h.nodup

def expP (x y : Entry) : Pair := ⟨x.pair.dst, y.pair.src⟩
def expOk (x y : Entry) : Bool := coversB y.pair.dst x.pair.dst && checkPairB (expP x y)
def expE (L : List Entry) (x y : Entry) : Entry := ⟨expP x y, (bestB L (expP x y)).if_, (bestB L (expP x y)).hop⟩
def expK (L : List Entry) (x : Entry) (M : TabE) (y : Entry) : TabE := if expOk x y then aset M (expP x y) (expE L x y) else M
def expR (L : List Entry) (M : TabE) (x : Entry) : TabE := L.foldl (expK L x) M
def expM (L : List Entry) : TabE := L.foldl (expR L) []
theorem expK_good {L : List Entry} {x y : Entry} {M : TabE} (h : GoodE M) : GoodE (expK L x M y) := by
  unfold expK
  split
  · rename_i hq
    unfold expOk at hq
    rw [Bool.and_eq_true] at hq
    exact h.set (e := expE L x y) hq.2
  · exact h
theorem expK_len (L : List Entry) (x y : Entry) (M : TabE) : (expK L x M y).length ≤ M.length + 1 := by
  unfold expK
  split
  · rw [len_aset]; split <;> omega
  · omega
theorem expR_len (L : List Entry) (x : Entry) : ∀ (ys : List Entry) (M : TabE), (ys.foldl (expK L x) M).length ≤ M.length + ys.length := by
  intro ys
  induction ys with
  | nil => intro M; simp
  | cons y ys ih =>
    intro M
    have h1 := expK_len L x y M
    have h2 := ih (expK L x M y)
    simp only [List.foldl_cons, List.length_cons]
    omega
theorem expR_good {L : List Entry} {x : Entry} : ∀ (ys : List Entry) {M : TabE}, GoodE M → GoodE (ys.foldl (expK L x) M) := by
  intro ys
  induction ys with
  | nil => exact fun h => h
  | cons y ys ih => exact fun h => ih (expK_good h)
theorem expM_len (L : List Entry) : ∀ (xs : List Entry) (M : TabE), (xs.foldl (expR L) M).length ≤ M.length + xs.length * L.length := by
  intro xs
  induction xs with
  | nil => intro M; simp
  | cons x xs ih =>
    intro M
    have h1 := expR_len L x L M
    have h2 := ih (expR L M x)
    simp only [List.foldl_cons, List.length_cons, Nat.add_mul, Nat.one_mul]
    unfold expR at h2 ⊢
    omega
theorem expM_good {L : List Entry} : ∀ (xs : List Entry) {M : TabE}, GoodE M → GoodE (xs.foldl (expR L) M) := by
  intro xs
  induction xs with
  | nil => exact fun h => h
  | cons x xs ih => exact fun h => ih (expR_good L h)
/-- What Expand tells. -/
def Expands (xs L' : List Entry) : Prop := ∃ L, OrdE (xs.foldl (impK []) []) L ∧ OrdE (expM L) L'

theorem expand_spec (F : Fr) {a : Option Addr} {c : Nat} {xs : List Entry} (ha : ArgSl F a 51 Entry.enc xs) (hl : xs.length ≤ 700) : Spec Try.prog 12 #[.slice a xs.length c] [] F (fun v S => ∃ L' : List Entry, Expands xs L' ∧ S = [slA 41 51 Entry.enc v L']) := by
 refine Spec.intro (N := 91) (args := [.slice a xs.length c]) Try.func12 rfl rfl (by simp) ?_
 refine Run.seq fun k1 hk1 => ?_
 refine Run.region ?_
 show Sq _ _ _ [0] _ _ _ _
 refine Sq.quiet (i := 0) rfl (Want.none rfl) rfl (ltN rfl) (QP.assign rfl rfl).read ?_
 refine Sq.nil ?_
 refine hk1 _ _ ?_
 refine Run.seq fun k2 hk2 => ?_
 refine Run.region ?_
 show Sq _ _ _ [0, 1] _ _ _ _
 refine Sq.eff (i := 0) rfl (Want.none rfl) rfl (ltN rfl) (EF.makeMap keyE valE rfl) ?_
 rintro _ _ ⟨r16, rfl, rfl⟩
 refine Sq.quiet (i := 1) rfl (Want.none rfl) rfl (ltN rfl) (QP.assign rfl rfl).read ?_
 refine Sq.nil ?_
 refine hk2 _ _ ?_
 refine Run.seq fun k3 hk3 => ?_
 refine Run.seq fun k4 hk4 => ?_
 refine Run.region ?_
 show Sq _ _ _ [0, 1, 2] _ _ _ _
 refine Sq.quiet (i := 0) rfl (Want.none rfl) rfl (ltN rfl) (QP.move rfl rfl).read ?_
 refine Sq.quiet (i := 1) rfl (Want.none rfl) rfl (ltN rfl) (QP.len rfl rfl rfl Try.underlying22).read ?_
 refine Sq.quiet (i := 2) rfl (Want.none rfl) rfl (ltN rfl) (QP.move rfl rfl).read ?_
 refine Sq.nil ?_
 refine hk4 _ _ ?_
 refine Run.block ?_
 refine Run.loop1 (fun (i : Nat) => i ≤ xs.length) (fun i => .cons 3 (.map (some r16)) (.cons 17 (.slice a xs.length c) (.cons 18 (.int .i64 xs.length) (.cons 19 (.int .i64 i) (.nil))))) (fun i => [mapE r16 ((xs.take i).foldl (impK []) [])]) (fun i => xs.length - i) (0) (Nat.zero_le _) ?_ ?_
 ·exact fun _ j => J.envJ (J.keep (.cons (by repeat constructor) Takes.nil) j) ⟨rfl, rfl, rfl, rfl, trivial⟩
 rintro i hile kl5 hl5
 refine Run.seq fun k6 hk6 => ?_
 refine Run.region ?_
 show Sq _ _ _ [0] _ _ _ _
 refine Sq.quiet (i := 0) rfl (Want.none rfl) rfl (ltN rfl) (QP.lss rfl rfl rfl).read ?_
 refine J.caseD (fun c20 => ?_) (fun c20 => ?_)
 ·skip
  refine Sq.nil ?_
  refine hk6 _ _ ?_
  refine Run.seq fun k7 hk7 => ?_
  refine Run.cond_t rfl ?_
  refine Run.skip ?_
  refine hk7 _ _ ?_
  refine Run.seq fun k8 hk8 => ?_
  refine Run.block ?_
  refine Run.seq fun k9 hk9 => ?_
  refine Run.region ?_
  show Sq _ _ _ [0, 1, 2, 3] _ _ _ _
  have hlt : i < xs.length := by omega
  obtain ⟨e, hi⟩ : ∃ e, xs[i]? = some e := ⟨_, List.getElem?_eq_getElem hlt⟩
  obtain ⟨b0, o0, rfl, hs0⟩ := ha.get (by omega)
  have hsu : (xs.take (i + 1)).foldl (impK []) [] = impK [] ((xs.take i).foldl (impK []) []) e := by rw [List.take_add_one, hi, Option.toList_some, List.foldl_append]; rfl
  refine Sq.quiet (i := 0) rfl (Want.none rfl) rfl (ltN rfl) (QP.indexAddr rfl rfl rfl Try.underlying22 z41 (by first | omega | (simp <;> omega)) (by first | omega | (simp <;> omega))).read ?_
  refine Sq.quiet (i := 1) rfl (Want.none rfl) rfl (ltN rfl) (QR.loadSl rfl rfl g41 Entry.enc_len (hs0 _) hi) ?_
  refine Sq.eff (i := 2) rfl (Want.none rfl) rfl (ltN rfl) (EF.allocA (l := Entry.enc Entry.zero) rfl zero41) ?_
  rintro _ _ ⟨b5, rfl, rfl⟩
  refine Sq.act (i := 3) rfl (Want.none rfl) rfl (EF.storeA rfl rfl rfl z41 (SetL.all (Entry.enc_len _) (Entry.enc_len _)) (Entry.enc_cell _)) ?_
  rintro _ _ rfl
  refine Sq.nil ?_
  refine hk9 _ _ ?_
  refine Run.seq fun k10 hk10 => ?_
  refine Run.region ?_
  show Sq _ _ _ [0, 1, 2, 3, 4, 5, 6, 7, 8, 9] _ _ _ _
  refine Sq.quiet (i := 0) rfl (Want.none rfl) rfl (ltN rfl) (QP.move rfl rfl).read ?_
  refine Sq.quiet (i := 1) rfl (Want.none rfl) rfl (ltN rfl) (QP.fieldAddr rfl rfl f41_0).read ?_
  refine Sq.quiet (i := 2) rfl (Want.none rfl) rfl (ltN rfl) (QR.load rfl rfl g39 (Entry.sub_pair _)) ?_
  refine Sq.quiet (i := 3) rfl (Want.none rfl) rfl (ltN rfl) (QR.lookup2V key39 rfl rfl rfl Try.underlying74 (z := Entry.zero) zero41) ?_
  refine Sq.quiet (i := 4) rfl (Want.none rfl) rfl (ltN rfl) (QP.move rfl rfl).read ?_
  refine Sq.quiet (i := 5) rfl (Want.none rfl) rfl (ltN rfl) (QP.extract rfl rfl rfl).read ?_
  refine Sq.quiet (i := 6) rfl (Want.none rfl) rfl (ltN rfl) (QP.extract rfl rfl rfl).read ?_
  refine J.caseB (fun c29 => ?_) (fun c29 => ?_)
  ·skip
   refine Sq.eff (i := 7) rfl (Want.none rfl) rfl (ltN rfl) (EF.allocA (l := Entry.enc Entry.zero) rfl zero41) ?_
   rintro _ _ ⟨b6, rfl, rfl⟩
   refine Sq.act (i := 8) rfl (Want.none rfl) rfl (EF.storeA rfl rfl rfl z41 (SetL.all (Entry.enc_len _) (Entry.enc_len _)) (Entry.enc_cell _)) ?_
   rintro _ _ rfl
   refine Sq.quiet (i := 9) rfl (Want.none rfl) rfl (ltN rfl) (QP.assign rfl rfl).read ?_
   refine Sq.nil ?_
   refine hk10 _ _ ?_
   refine Run.seq fun k11 hk11 => ?_
   refine Run.region ?_
   show Sq _ _ _ [0, 1, 2, 3, 4, 5, 6, 7] _ _ _ _
   refine Sq.quiet (i := 0) rfl (Want.none rfl) rfl (ltN rfl) (QP.move rfl rfl).read ?_
   refine Sq.quiet (i := 1) rfl (Want.none rfl) rfl (ltN rfl) (QP.not rfl rfl).read ?_
   refine Sq.quiet (i := 2) rfl (Want.none rfl) rfl (ltN rfl) (QP.move rfl rfl).read ?_
   refine Sq.skip (i := 3) rfl (Want.no rfl rfl rfl rfl) rfl (ltN rfl) ?_
   refine Sq.skip (i := 4) rfl (Want.no rfl rfl rfl rfl) rfl (ltN rfl) ?_
   refine Sq.skip (i := 5) rfl (Want.no rfl rfl rfl rfl) rfl (ltN rfl) ?_
   refine Sq.skip (i := 6) rfl (Want.no rfl rfl rfl rfl) rfl (ltN rfl) ?_
   refine Sq.quiet (i := 7) rfl (Want.none rfl) rfl (ltN rfl) (QP.pick_f rfl rfl rfl).read ?_
   refine Sq.nil ?_
   refine hk11 _ _ ?_
   refine Run.cond_f rfl ?_
   refine Run.skip ?_
   refine hk8 _ _ ?_
   refine Run.region ?_
   show Sq _ _ _ [0, 1] _ _ _ _
   have hok : impOk [] ((xs.take i).foldl (impK []) []) e = false := by unfold impOk; rw [c29]; rfl
   refine Sq.quiet (i := 0) rfl (Want.none rfl) rfl (ltN rfl) (QP.add64 rfl rfl rfl (by first | omega | (simp <;> omega)) (by first | omega | (simp <;> omega))).read ?_
   refine Sq.quiet (i := 1) rfl (Want.none rfl) rfl (ltN rfl) (QP.move rfl rfl).read ?_
   refine Sq.nil ?_
   refine J.mapEq (M := ((xs.take i).foldl (impK []) [])) (by repeat constructor) (show _ = (xs.take (i + 1)).foldl (impK []) [] by rw [hsu, impK_no hok]) ?_
   exact J.envJ (J.keep (.cons (by repeat constructor) Takes.nil) (hl5 (i + 1) (by omega) (by omega))) ⟨rfl, rfl, rfl, rfl, trivial⟩
  ·skip
   refine Sq.eff (i := 7) rfl (Want.none rfl) rfl (ltN rfl) (EF.allocA (l := Entry.enc Entry.zero) rfl zero41) ?_
   rintro _ _ ⟨b6, rfl, rfl⟩
   refine Sq.act (i := 8) rfl (Want.none rfl) rfl (EF.storeA rfl rfl rfl z41 (SetL.all (Entry.enc_len _) (Entry.enc_len _)) (Entry.enc_cell _)) ?_
   rintro _ _ rfl
   refine Sq.quiet (i := 9) rfl (Want.none rfl) rfl (ltN rfl) (QP.assign rfl rfl).read ?_
   refine Sq.nil ?_
   refine hk10 _ _ ?_
   refine Run.seq fun k12 hk12 => ?_
   refine Run.region ?_
   show Sq _ _ _ [0, 1, 2, 3, 4, 5, 6, 7] _ _ _ _
   refine Sq.quiet (i := 0) rfl (Want.none rfl) rfl (ltN rfl) (QP.move rfl rfl).read ?_
   refine Sq.quiet (i := 1) rfl (Want.none rfl) rfl (ltN rfl) (QP.not rfl rfl).read ?_
   refine Sq.quiet (i := 2) rfl (Want.none rfl) rfl (ltN rfl) (QP.move rfl rfl).read ?_
   refine Sq.quiet (i := 3) rfl (Want.yes rfl rfl rfl rfl) rfl (ltN rfl) (QP.fieldAddr rfl rfl f41_0).read ?_
   refine Sq.quiet (i := 4) rfl (Want.yes rfl rfl rfl rfl) rfl (ltN rfl) (QR.load rfl rfl g39 (Entry.sub_pair _)) ?_
   refine Sq.eff (i := 5) rfl (Want.yes rfl rfl rfl rfl) rfl (ltN rfl) (EF.call rfl ce36 rfl Takes.nil (fun F' hle hr => checkPair_spec F' ((e).pair))) ?_
   rintro _ _ ⟨_, ⟨rfl, rfl⟩, rfl⟩
   refine J.app ?_
   refine Sq.quiet (i := 6) rfl (Want.yes rfl rfl rfl rfl) rfl (ltN rfl) (QP.eql rfl rfl rfl).read ?_
   refine J.caseD (fun c36 => ?_) (fun c36 => ?_)
   ·skip
    refine Sq.quiet (i := 7) rfl (Want.none rfl) rfl (ltN rfl) (QP.pick_t rfl rfl rfl).read ?_
    refine Sq.nil ?_
    refine hk12 _ _ ?_
    refine Run.cond_t rfl ?_
    refine Run.region ?_
    show Sq _ _ _ [0, 1, 2, 3, 4] _ _ _ _
    refine Sq.quiet (i := 0) rfl (Want.none rfl) rfl (ltN rfl) (QP.move rfl rfl).read ?_
    refine Sq.quiet (i := 1) rfl (Want.none rfl) rfl (ltN rfl) (QP.fieldAddr rfl rfl f41_0).read ?_
    refine Sq.quiet (i := 2) rfl (Want.none rfl) rfl (ltN rfl) (QR.load rfl rfl g39 (Entry.sub_pair _)) ?_
    refine Sq.quiet (i := 3) rfl (Want.none rfl) rfl (ltN rfl) (QR.load rfl rfl g41 (Entry.enc_sub _)) ?_
    refine Sq.act (i := 4) rfl (Want.none rfl) rfl (EF.mapUpdate (ev := valE) (v := e) key39 rfl rfl rfl rfl Try.underlying74) ?_
    rintro _ _ rfl
    refine Sq.nil ?_
    refine hk8 _ _ ?_
    refine Run.region ?_
    show Sq _ _ _ [0, 1] _ _ _ _
    have hok : impOk [] ((xs.take i).foldl (impK []) []) e = true := by unfold impOk; rw [c29, erno_zero.1 c36]; rfl
    refine Sq.quiet (i := 0) rfl (Want.none rfl) rfl (ltN rfl) (QP.add64 rfl rfl rfl (by first | omega | (simp <;> omega)) (by first | omega | (simp <;> omega))).read ?_
    refine Sq.quiet (i := 1) rfl (Want.none rfl) rfl (ltN rfl) (QP.move rfl rfl).read ?_
    refine Sq.nil ?_
    refine J.mapEq (M := (aset ((xs.take i).foldl (impK []) []) e.pair e)) (by repeat constructor) (show _ = (xs.take (i + 1)).foldl (impK []) [] by rw [hsu, impK_yes hok]) ?_
    exact J.envJ (J.keep (.cons (by repeat constructor) Takes.nil) (hl5 (i + 1) (by omega) (by omega))) ⟨rfl, rfl, rfl, rfl, trivial⟩
   ·skip
    refine Sq.quiet (i := 7) rfl (Want.none rfl) rfl (ltN rfl) (QP.pick_t rfl rfl rfl).read ?_
    refine Sq.nil ?_
    refine hk12 _ _ ?_
    refine Run.cond_f rfl ?_
    refine Run.skip ?_
    refine hk8 _ _ ?_
    refine Run.region ?_
    show Sq _ _ _ [0, 1] _ _ _ _
    have hok : impOk [] ((xs.take i).foldl (impK []) []) e = false := by unfold impOk; rw [c29]; cases hq : checkPairB e.pair with
      | false => rfl
      | true => exact absurd (erno_zero.2 hq) c36
    refine Sq.quiet (i := 0) rfl (Want.none rfl) rfl (ltN rfl) (QP.add64 rfl rfl rfl (by first | omega | (simp <;> omega)) (by first | omega | (simp <;> omega))).read ?_
    refine Sq.quiet (i := 1) rfl (Want.none rfl) rfl (ltN rfl) (QP.move rfl rfl).read ?_
    refine Sq.nil ?_
    refine J.mapEq (M := ((xs.take i).foldl (impK []) [])) (by repeat constructor) (show _ = (xs.take (i + 1)).foldl (impK []) [] by rw [hsu, impK_no hok]) ?_
    exact J.envJ (J.keep (.cons (by repeat constructor) Takes.nil) (hl5 (i + 1) (by omega) (by omega))) ⟨rfl, rfl, rfl, rfl, trivial⟩
 ·skip
  refine Sq.nil ?_
  refine hk6 _ _ ?_
  refine Run.seq fun k13 hk13 => ?_
  refine Run.cond_f rfl ?_
  refine Run.exit rfl ?_
  refine hk3 _ _ ?_
  refine Run.seq fun k14 hk14 => ?_
  refine Run.region ?_
  show Sq _ _ _ [0, 1, 2] _ _ _ _
  have hall : xs.take i = xs := List.take_of_length_le (by omega)
  rw [hall]
  have hgood : GoodE (xs.foldl (impK []) []) := GoodE.imps xs GoodE.nil
  obtain ⟨L, hL⟩ := hgood.ord
  have hGl : (xs.foldl (impK []) []).length ≤ 1000000 := by have := (imp_len [] xs []).2; simp only [List.length_nil] at this; omega
  have hL7 : L.length ≤ 700 := by rw [hL.length]; have := (imp_len [] xs []).2; simp only [List.length_nil] at this; omega
  have hLl : L.length ≤ 1000000 := by omega
  refine Sq.quiet (i := 0) rfl (Want.none rfl) rfl (ltN rfl) (QP.move rfl rfl).read ?_
  refine Sq.eff (i := 1) rfl (Want.none rfl) rfl (ltN rfl) (EF.call rfl ce39 rfl (.cons (by repeat constructor) Takes.nil) (fun F' hle hr => list_spec F' hGl hL)) ?_
  rintro v44 _ ⟨_, rfl, rfl⟩
  refine J.app ?_
  refine Sq.slCase (v := v44) (xs := L) (by repeat constructor) (fun a44 c44 hv44 hh44 => ?_)
  subst hv44
  refine Sq.quiet (i := 2) rfl (Want.none rfl) rfl (ltN rfl) (QP.assign rfl rfl).read ?_
  refine Sq.nil ?_
  refine hk14 _ _ ?_
  refine Run.seq fun k15 hk15 => ?_
  refine Run.region ?_
  show Sq _ _ _ [0, 1] _ _ _ _
  refine Sq.eff (i := 0) rfl (Want.none rfl) rfl (ltN rfl) (EF.makeMap keyE valE rfl) ?_
  rintro _ _ ⟨r45, rfl, rfl⟩
  refine Sq.quiet (i := 1) rfl (Want.none rfl) rfl (ltN rfl) (QP.assign rfl rfl).read ?_
  refine Sq.nil ?_
  refine hk15 _ _ ?_
  refine Run.seq fun k16 hk16 => ?_
  refine Run.seq fun k17 hk17 => ?_
  refine Run.region ?_
  show Sq _ _ _ [0, 1, 2] _ _ _ _
  refine Sq.quiet (i := 0) rfl (Want.none rfl) rfl (ltN rfl) (QP.move rfl rfl).read ?_
  refine Sq.quiet (i := 1) rfl (Want.none rfl) rfl (ltN rfl) (QP.len rfl rfl rfl Try.underlying22).read ?_
  refine Sq.quiet (i := 2) rfl (Want.none rfl) rfl (ltN rfl) (QP.move rfl rfl).read ?_
  refine Sq.nil ?_
  refine hk17 _ _ ?_
  refine Run.block ?_
  refine Run.loop1 (fun (i : Nat) => i ≤ L.length) (fun i => .cons 8 (.slice a44 L.length c44) (.cons 9 (.map (some r45)) (.cons 46 (.slice a44 L.length c44) (.cons 47 (.int .i64 L.length) (.cons 48 (.int .i64 i) (.nil)))))) (fun i => [mapE r45 ((L.take i).foldl (expR L) []), slA 41 51 Entry.enc (.slice a44 L.length c44) L]) (fun i => L.length - i) (0) (Nat.zero_le _) ?_ ?_
  ·exact fun _ j => J.envJ (J.keep (.cons (by repeat constructor) (.cons (by repeat constructor) Takes.nil)) j) ⟨rfl, rfl, rfl, rfl, rfl, trivial⟩
  rintro i hile2 kl18 hl18
  refine Run.seq fun k19 hk19 => ?_
  refine Run.region ?_
  show Sq _ _ _ [0] _ _ _ _
  refine Sq.quiet (i := 0) rfl (Want.none rfl) rfl (ltN rfl) (QP.lss rfl rfl rfl).read ?_
  refine J.caseD (fun c49 => ?_) (fun c49 => ?_)
  ·skip
   refine Sq.nil ?_
   refine hk19 _ _ ?_
   refine Run.seq fun k20 hk20 => ?_
   refine Run.cond_t rfl ?_
   refine Run.skip ?_
   refine hk20 _ _ ?_
   refine Run.seq fun k21 hk21 => ?_
   refine Run.block ?_
   refine Run.seq fun k22 hk22 => ?_
   refine Run.region ?_
   show Sq _ _ _ [0, 1, 2, 3] _ _ _ _
   obtain ⟨x, hx⟩ : ∃ x, L[i]? = some x := ⟨_, List.getElem?_eq_getElem (by omega)⟩
   obtain ⟨b0, o0, rfl⟩ := hh44.get (by omega)
   have hsx : (L.take (i + 1)).foldl (expR L) [] = expR L ((L.take i).foldl (expR L) []) x := by rw [List.take_add_one, hx, Option.toList_some, List.foldl_append]; rfl
   refine Sq.quiet (i := 0) rfl (Want.none rfl) rfl (ltN rfl) (QP.indexAddr rfl rfl rfl Try.underlying22 z41 (by first | omega | (simp <;> omega)) (by first | omega | (simp <;> omega))).read ?_
   refine Sq.quiet (i := 1) rfl (Want.none rfl) rfl (ltN rfl) (QR.loadSl rfl rfl g41 Entry.enc_len (SlAt.own Entry.enc_len (by repeat constructor)) hx) ?_
   refine Sq.eff (i := 2) rfl (Want.none rfl) rfl (ltN rfl) (EF.allocA (l := Entry.enc Entry.zero) rfl zero41) ?_
   rintro _ _ ⟨b11, rfl, rfl⟩
   refine Sq.act (i := 3) rfl (Want.none rfl) rfl (EF.storeA rfl rfl rfl z41 (SetL.all (Entry.enc_len _) (Entry.enc_len _)) (Entry.enc_cell _)) ?_
   rintro _ _ rfl
   refine Sq.nil ?_
   refine hk22 _ _ ?_
   refine Run.seq fun k23 hk23 => ?_
   refine Run.region ?_
   show Sq _ _ _ [0, 1, 2] _ _ _ _
   refine Sq.quiet (i := 0) rfl (Want.none rfl) rfl (ltN rfl) (QP.move rfl rfl).read ?_
   refine Sq.quiet (i := 1) rfl (Want.none rfl) rfl (ltN rfl) (QP.len rfl rfl rfl Try.underlying22).read ?_
   refine Sq.quiet (i := 2) rfl (Want.none rfl) rfl (ltN rfl) (QP.move rfl rfl).read ?_
   refine Sq.nil ?_
   refine hk23 _ _ ?_
   refine Run.block ?_
   refine Run.loop1 (fun (j : Nat) => j ≤ L.length) (fun j => .cons 8 (.slice (some ⟨b0, o0, none⟩) L.length c44) (.cons 9 (.map (some r45)) (.cons 11 (.pointer (some ⟨b11, 0, none⟩)) (.cons 46 (.slice (some ⟨b0, o0, none⟩) L.length c44) (.cons 47 (.int .i64 L.length) (.cons 48 (.int .i64 i) (.cons 52 (.slice (some ⟨b0, o0, none⟩) L.length c44) (.cons 53 (.int .i64 L.length) (.cons 54 (.int .i64 j) (.nil)))))))))) (fun j => [mapE r45 ((L.take j).foldl (expK L x) ((L.take i).foldl (expR L) [])), slA 41 51 Entry.enc (.slice (some ⟨b0, o0, none⟩) L.length c44) L, blk b11 (Entry.enc x) 41]) (fun j => L.length - j) (0) (Nat.zero_le _) ?_ ?_
   ·exact fun _ j => J.envJ (J.keep (.cons (by repeat constructor) (.cons (by repeat constructor) (.cons (by repeat constructor) Takes.nil))) j) ⟨rfl, rfl, rfl, rfl, rfl, rfl, rfl, rfl, rfl, trivial⟩
   rintro j hjle kl24 hl24
   refine Run.seq fun k25 hk25 => ?_
   refine Run.region ?_
   show Sq _ _ _ [0] _ _ _ _
   refine Sq.quiet (i := 0) rfl (Want.none rfl) rfl (ltN rfl) (QP.lss rfl rfl rfl).read ?_
   refine J.caseD (fun c55 => ?_) (fun c55 => ?_)
   ·skip
    refine Sq.nil ?_
    refine hk25 _ _ ?_
    refine Run.seq fun k26 hk26 => ?_
    refine Run.cond_t rfl ?_
    refine Run.skip ?_
    refine hk26 _ _ ?_
    refine Run.seq fun k27 hk27 => ?_
    refine Run.block ?_
    refine Run.seq fun k28 hk28 => ?_
    refine Run.region ?_
    show Sq _ _ _ [0, 1, 2, 3] _ _ _ _
    obtain ⟨y, hy⟩ : ∃ y, L[j]? = some y := ⟨_, List.getElem?_eq_getElem (by omega)⟩
    have hsy : (L.take (j + 1)).foldl (expK L x) ((L.take i).foldl (expR L) []) = expK L x ((L.take j).foldl (expK L x) ((L.take i).foldl (expR L) [])) y := by rw [List.take_add_one, hy, Option.toList_some, List.foldl_append]; rfl
    refine Sq.quiet (i := 0) rfl (Want.none rfl) rfl (ltN rfl) (QP.indexAddr rfl rfl rfl Try.underlying22 z41 (by first | omega | (simp <;> omega)) (by first | omega | (simp <;> omega))).read ?_
    refine Sq.quiet (i := 1) rfl (Want.none rfl) rfl (ltN rfl) (QR.loadSl rfl rfl g41 Entry.enc_len (SlAt.own Entry.enc_len (by repeat constructor)) hy) ?_
    refine Sq.eff (i := 2) rfl (Want.none rfl) rfl (ltN rfl) (EF.allocA (l := Entry.enc Entry.zero) rfl zero41) ?_
    rintro _ _ ⟨b13, rfl, rfl⟩
    refine Sq.act (i := 3) rfl (Want.none rfl) rfl (EF.storeA rfl rfl rfl z41 (SetL.all (Entry.enc_len _) (Entry.enc_len _)) (Entry.enc_cell _)) ?_
    rintro _ _ rfl
    refine Sq.nil ?_
    refine hk28 _ _ ?_
    refine Run.seq fun k29 hk29 => ?_
    refine Run.region ?_
    show Sq _ _ _ [0, 1, 2, 3, 4, 5, 6, 7, 8] _ _ _ _
    refine Sq.quiet (i := 0) rfl (Want.none rfl) rfl (ltN rfl) (QP.fieldAddr rfl rfl f41_0).read ?_
    refine Sq.quiet (i := 1) rfl (Want.none rfl) rfl (ltN rfl) (QP.fieldAddr rfl rfl f39_0).read ?_
    refine Sq.quiet (i := 2) rfl (Want.none rfl) rfl (ltN rfl) (QR.load rfl rfl g37 ((Entry.sub_pair _).trans (Pair.sub_dst _))) ?_
    refine Sq.quiet (i := 3) rfl (Want.none rfl) rfl (ltN rfl) (QP.fieldAddr rfl rfl f41_0).read ?_
    refine Sq.quiet (i := 4) rfl (Want.none rfl) rfl (ltN rfl) (QP.fieldAddr rfl rfl f39_1).read ?_
    refine Sq.quiet (i := 5) rfl (Want.none rfl) rfl (ltN rfl) (QR.load rfl rfl g37 ((Entry.sub_pair _).trans (Pair.sub_src _))) ?_
    refine Sq.quiet (i := 6) rfl (Want.none rfl) rfl (ltN rfl) (QP.build (l := Pair.enc ⟨(((x).pair).dst), (((y).pair).src)⟩) rfl st39 rfl (by exact ⟨(congrArg some (Prefix.enc_len _).symm), ⟨(congrArg some (Prefix.enc_len _).symm), trivial⟩⟩) rfl).read ?_
    refine Sq.eff (i := 7) rfl (Want.none rfl) rfl (ltN rfl) (EF.allocA (l := Pair.enc Pair.zero) rfl zero39) ?_
    rintro _ _ ⟨b14, rfl, rfl⟩
    rw [show (⟨(((x).pair).dst), (((y).pair).src)⟩ : Pair) = expP x y from rfl]
    refine Sq.act (i := 8) rfl (Want.none rfl) rfl (EF.storeA rfl rfl rfl z39 (SetL.all (Pair.enc_len _) (Pair.enc_len _)) (Pair.enc_cell _)) ?_
    rintro _ _ rfl
    refine Sq.nil ?_
    refine hk29 _ _ ?_
    refine Run.seq fun k30 hk30 => ?_
    refine Run.region ?_
    show Sq _ _ _ [0, 1, 2, 3, 4, 5, 6, 7, 8, 9, 10] _ _ _ _
    refine Sq.quiet (i := 0) rfl (Want.none rfl) rfl (ltN rfl) (QP.fieldAddr rfl rfl f41_0).read ?_
    refine Sq.quiet (i := 1) rfl (Want.none rfl) rfl (ltN rfl) (QP.fieldAddr rfl rfl f39_0).read ?_
    refine Sq.quiet (i := 2) rfl (Want.none rfl) rfl (ltN rfl) (QR.load rfl rfl g37 ((Entry.sub_pair _).trans (Pair.sub_dst _))) ?_
    refine Sq.quiet (i := 3) rfl (Want.none rfl) rfl (ltN rfl) (QP.fieldAddr rfl rfl f39_0).read ?_
    refine Sq.quiet (i := 4) rfl (Want.none rfl) rfl (ltN rfl) (QR.load rfl rfl g37 (Pair.sub_dst _)) ?_
    refine Sq.eff (i := 5) rfl (Want.none rfl) rfl (ltN rfl) (EF.call rfl ce40 rfl Takes.nil (fun F' hle hr => covers_spec F' (((y).pair).dst) (((expP x y)).dst))) ?_
    rintro _ _ ⟨_, ⟨rfl, rfl⟩, rfl⟩
    refine J.app ?_
    refine J.caseB (fun c70 => ?_) (fun c70 => ?_)
    ·skip
     refine Sq.quiet (i := 6) rfl (Want.none rfl) rfl (ltN rfl) (QP.move rfl rfl).read ?_
     refine Sq.quiet (i := 7) rfl (Want.yes rfl rfl rfl rfl) rfl (ltN rfl) (QR.load rfl rfl g39 (Pair.enc_sub _)) ?_
     refine Sq.eff (i := 8) rfl (Want.yes rfl rfl rfl rfl) rfl (ltN rfl) (EF.call rfl ce36 rfl Takes.nil (fun F' hle hr => checkPair_spec F' ((expP x y)))) ?_
     rintro _ _ ⟨_, ⟨rfl, rfl⟩, rfl⟩
     refine J.app ?_
     refine Sq.quiet (i := 9) rfl (Want.yes rfl rfl rfl rfl) rfl (ltN rfl) (QP.eql rfl rfl rfl).read ?_
     refine J.caseD (fun c74 => ?_) (fun c74 => ?_)
     ·skip
      refine Sq.quiet (i := 10) rfl (Want.none rfl) rfl (ltN rfl) (QP.pick_t rfl rfl rfl).read ?_
      refine Sq.nil ?_
      refine hk30 _ _ ?_
      refine Run.cond_t rfl ?_
      refine Run.seq fun k31 hk31 => ?_
      refine Run.region ?_
      show Sq _ _ _ [0, 1, 2, 3, 4] _ _ _ _
      refine Sq.quiet (i := 0) rfl (Want.none rfl) rfl (ltN rfl) (QP.move rfl rfl).read ?_
      refine Sq.quiet (i := 1) rfl (Want.none rfl) rfl (ltN rfl) (QR.load rfl rfl g39 (Pair.enc_sub _)) ?_
      refine Sq.eff (i := 2) rfl (Want.none rfl) rfl (ltN rfl) (EF.call rfl ce41 rfl (.cons (by repeat constructor) Takes.nil) (fun F' hle hr => best_spec F' hh44 hLl _)) ?_
      rintro _ _ ⟨_, ⟨rfl, rfl⟩, rfl⟩
      refine J.app ?_
      refine Sq.eff (i := 3) rfl (Want.none rfl) rfl (ltN rfl) (EF.allocA (l := Entry.enc Entry.zero) rfl zero41) ?_
      rintro _ _ ⟨b15, rfl, rfl⟩
      refine Sq.act (i := 4) rfl (Want.none rfl) rfl (EF.storeA rfl rfl rfl z41 (SetL.all (Entry.enc_len _) (Entry.enc_len _)) (Entry.enc_cell _)) ?_
      rintro _ _ rfl
      refine Sq.nil ?_
      refine hk31 _ _ ?_
      refine Run.region ?_
      show Sq _ _ _ [0, 1, 2, 3, 4, 5, 6, 7, 8] _ _ _ _
      refine Sq.quiet (i := 0) rfl (Want.none rfl) rfl (ltN rfl) (QP.move rfl rfl).read ?_
      refine Sq.quiet (i := 1) rfl (Want.none rfl) rfl (ltN rfl) (QR.load rfl rfl g39 (Pair.enc_sub _)) ?_
      refine Sq.quiet (i := 2) rfl (Want.none rfl) rfl (ltN rfl) (QR.load rfl rfl g39 (Pair.enc_sub _)) ?_
      refine Sq.quiet (i := 3) rfl (Want.none rfl) rfl (ltN rfl) (QP.fieldAddr rfl rfl f41_1).read ?_
      refine Sq.quiet (i := 4) rfl (Want.none rfl) rfl (ltN rfl) (QR.load1 rfl rfl g3 (Entry.sub_if_ _)) ?_
      refine Sq.quiet (i := 5) rfl (Want.none rfl) rfl (ltN rfl) (QP.fieldAddr rfl rfl f41_2).read ?_
      refine Sq.quiet (i := 6) rfl (Want.none rfl) rfl (ltN rfl) (QR.load rfl rfl g35 (Entry.sub_hop _)) ?_
      refine Sq.quiet (i := 7) rfl (Want.none rfl) rfl (ltN rfl) (QP.build (l := Entry.enc ⟨((expP x y)), (((bestB L (expP x y))).if_), (((bestB L (expP x y))).hop)⟩) rfl st41 rfl (by exact ⟨(congrArg some (Pair.enc_len _).symm), ⟨rfl, ⟨(congrArg some (Bs.len _).symm), trivial⟩⟩⟩) rfl).read ?_
      rw [show (⟨((expP x y)), (((bestB L (expP x y))).if_), (((bestB L (expP x y))).hop)⟩ : Entry) = expE L x y from rfl]
      refine Sq.act (i := 8) rfl (Want.none rfl) rfl (EF.mapUpdate (ev := valE) (v := (expE L x y)) key39 rfl rfl rfl rfl Try.underlying74) ?_
      rintro _ _ rfl
      refine Sq.nil ?_
      refine hk27 _ _ ?_
      refine Run.region ?_
      show Sq _ _ _ [0, 1] _ _ _ _
      have hok : expK L x ((L.take j).foldl (expK L x) ((L.take i).foldl (expR L) [])) y = aset ((L.take j).foldl (expK L x) ((L.take i).foldl (expR L) [])) (expP x y) (expE L x y) := by unfold expK; rw [if_pos (show expOk x y = true by unfold expOk; rw [show coversB y.pair.dst x.pair.dst = true from c70, show checkPairB (expP x y) = true from erno_zero.1 c74]; rfl)]
      refine Sq.quiet (i := 0) rfl (Want.none rfl) rfl (ltN rfl) (QP.add64 rfl rfl rfl (by first | omega | (simp <;> omega)) (by first | omega | (simp <;> omega))).read ?_
      refine Sq.quiet (i := 1) rfl (Want.none rfl) rfl (ltN rfl) (QP.move rfl rfl).read ?_
      refine Sq.nil ?_
      refine J.mapEq (M := (aset ((L.take j).foldl (expK L x) ((L.take i).foldl (expR L) [])) (expP x y) (expE L x y))) (by repeat constructor) (show _ = (L.take (j + 1)).foldl (expK L x) ((L.take i).foldl (expR L) []) by rw [hsy, hok]) ?_
      exact J.envJ (J.keep (.cons (by repeat constructor) (.cons (by repeat constructor) (.cons (by repeat constructor) Takes.nil))) (hl24 (j + 1) (by omega) (by omega))) ⟨rfl, rfl, rfl, rfl, rfl, rfl, rfl, rfl, rfl, trivial⟩
     ·skip
      refine Sq.quiet (i := 10) rfl (Want.none rfl) rfl (ltN rfl) (QP.pick_t rfl rfl rfl).read ?_
      refine Sq.nil ?_
      refine hk30 _ _ ?_
      refine Run.cond_f rfl ?_
      refine Run.skip ?_
      refine hk27 _ _ ?_
      refine Run.region ?_
      show Sq _ _ _ [0, 1] _ _ _ _
      have hok : expK L x ((L.take j).foldl (expK L x) ((L.take i).foldl (expR L) [])) y = ((L.take j).foldl (expK L x) ((L.take i).foldl (expR L) [])) := by unfold expK; rw [if_neg (show ¬ expOk x y = true by unfold expOk; rw [show coversB y.pair.dst x.pair.dst = true from c70]; simp only [Bool.true_and]; exact fun h => c74 (erno_zero.2 h))]
      refine Sq.quiet (i := 0) rfl (Want.none rfl) rfl (ltN rfl) (QP.add64 rfl rfl rfl (by first | omega | (simp <;> omega)) (by first | omega | (simp <;> omega))).read ?_
      refine Sq.quiet (i := 1) rfl (Want.none rfl) rfl (ltN rfl) (QP.move rfl rfl).read ?_
      refine Sq.nil ?_
      refine J.mapEq (M := ((L.take j).foldl (expK L x) ((L.take i).foldl (expR L) []))) (by repeat constructor) (show _ = (L.take (j + 1)).foldl (expK L x) ((L.take i).foldl (expR L) []) by rw [hsy, hok]) ?_
      exact J.envJ (J.keep (.cons (by repeat constructor) (.cons (by repeat constructor) (.cons (by repeat constructor) Takes.nil))) (hl24 (j + 1) (by omega) (by omega))) ⟨rfl, rfl, rfl, rfl, rfl, rfl, rfl, rfl, rfl, trivial⟩
    ·skip
     refine Sq.quiet (i := 6) rfl (Want.none rfl) rfl (ltN rfl) (QP.move rfl rfl).read ?_
     refine Sq.skip (i := 7) rfl (Want.no rfl rfl rfl rfl) rfl (ltN rfl) ?_
     refine Sq.skip (i := 8) rfl (Want.no rfl rfl rfl rfl) rfl (ltN rfl) ?_
     refine Sq.skip (i := 9) rfl (Want.no rfl rfl rfl rfl) rfl (ltN rfl) ?_
     refine Sq.quiet (i := 10) rfl (Want.none rfl) rfl (ltN rfl) (QP.pick_f rfl rfl rfl).read ?_
     refine Sq.nil ?_
     refine hk30 _ _ ?_
     refine Run.cond_f rfl ?_
     refine Run.skip ?_
     refine hk27 _ _ ?_
     refine Run.region ?_
     show Sq _ _ _ [0, 1] _ _ _ _
     have hok : expK L x ((L.take j).foldl (expK L x) ((L.take i).foldl (expR L) [])) y = ((L.take j).foldl (expK L x) ((L.take i).foldl (expR L) [])) := by unfold expK; rw [if_neg (show ¬ expOk x y = true by unfold expOk; rw [show coversB y.pair.dst x.pair.dst = false from c70]; simp)]
     refine Sq.quiet (i := 0) rfl (Want.none rfl) rfl (ltN rfl) (QP.add64 rfl rfl rfl (by first | omega | (simp <;> omega)) (by first | omega | (simp <;> omega))).read ?_
     refine Sq.quiet (i := 1) rfl (Want.none rfl) rfl (ltN rfl) (QP.move rfl rfl).read ?_
     refine Sq.nil ?_
     refine J.mapEq (M := ((L.take j).foldl (expK L x) ((L.take i).foldl (expR L) []))) (by repeat constructor) (show _ = (L.take (j + 1)).foldl (expK L x) ((L.take i).foldl (expR L) []) by rw [hsy, hok]) ?_
     exact J.envJ (J.keep (.cons (by repeat constructor) (.cons (by repeat constructor) (.cons (by repeat constructor) Takes.nil))) (hl24 (j + 1) (by omega) (by omega))) ⟨rfl, rfl, rfl, rfl, rfl, rfl, rfl, rfl, rfl, trivial⟩
   ·skip
    refine Sq.nil ?_
    refine hk25 _ _ ?_
    refine Run.seq fun k32 hk32 => ?_
    refine Run.cond_f rfl ?_
    refine Run.exit rfl ?_
    refine hk21 _ _ ?_
    refine Run.region ?_
    show Sq _ _ _ [0, 1] _ _ _ _
    have hallj : L.take j = L := List.take_of_length_le (by omega)
    rw [hallj]
    refine J.mapEq (by repeat constructor) (show _ = (L.take (i + 1)).foldl (expR L) [] by rw [hsx]; rfl) ?_
    refine Sq.quiet (i := 0) rfl (Want.none rfl) rfl (ltN rfl) (QP.add64 rfl rfl rfl (by first | omega | (simp <;> omega)) (by first | omega | (simp <;> omega))).read ?_
    refine Sq.quiet (i := 1) rfl (Want.none rfl) rfl (ltN rfl) (QP.move rfl rfl).read ?_
    refine Sq.nil ?_
    exact J.envJ (J.keep (.cons (by repeat constructor) (.cons (by repeat constructor) Takes.nil)) (hl18 (i + 1) (by omega) (by omega))) ⟨rfl, rfl, rfl, rfl, rfl, trivial⟩
  ·skip
   refine Sq.nil ?_
   refine hk19 _ _ ?_
   refine Run.seq fun k33 hk33 => ?_
   refine Run.cond_f rfl ?_
   refine Run.exit rfl ?_
   refine hk16 _ _ ?_
   refine Run.seq fun k34 hk34 => ?_
   refine Run.region ?_
   show Sq _ _ _ [0, 1, 2] _ _ _ _
   have halli : L.take i = L := List.take_of_length_le (by omega)
   rw [halli]
   have hgx : GoodE (L.foldl (expR L) []) := expM_good L GoodE.nil
   obtain ⟨L2, hL2⟩ := hgx.ord
   have hXl : (L.foldl (expR L) []).length ≤ 1000000 := by
     have h1 := expM_len L L []
     have h2 : L.length * L.length ≤ 700 * 700 := Nat.mul_le_mul hL7 hL7
     simp only [List.length_nil] at h1
     omega
   refine Sq.quiet (i := 0) rfl (Want.none rfl) rfl (ltN rfl) (QP.move rfl rfl).read ?_
   refine Sq.eff (i := 1) rfl (Want.none rfl) rfl (ltN rfl) (EF.call rfl ce39 rfl (.cons (by repeat constructor) Takes.nil) (fun F' hle hr => list_spec F' hXl hL2)) ?_
   rintro v90 _ ⟨_, rfl, rfl⟩
   refine J.app ?_
   refine Sq.quiet (i := 2) rfl (Want.none rfl) rfl (ltN rfl) (QP.assign rfl rfl).read ?_
   refine Sq.nil ?_
   refine hk34 _ _ ?_
   refine Run.ret ?_
   exact J.ends (res_tmp rfl rfl) (.cons (by repeat constructor) Takes.nil) ⟨L2, ⟨L, hL, hL2⟩, rfl⟩
end Slb
