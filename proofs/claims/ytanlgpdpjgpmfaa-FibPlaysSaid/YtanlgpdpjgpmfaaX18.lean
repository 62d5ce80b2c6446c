/- X18: a part of the proof that a law of this package holds for every input; no condition. -/
import Derived.Test.YtanlgpdpjgpmfaaX17
namespace Slb
open Go Go.Proofs
set_option maxRecDepth 20000
def FindR (L : List Entry) (p : Pair) (n : Int) : Prop := (n = -1 ∧ ∀ e ∈ L, e.pair ≠ p) ∨ ∃ (i : Nat) (e : Entry), n = i ∧ L[i]? = some e ∧ e.pair = p
theorem find_iff {M : TabE} {L : List Entry} (h : OrdE M L) {p : Pair} {n : Int} (hf : FindR L p n) : (n < 0 ↔ alook M p = none) := by
  rcases hf with ⟨rfl, h1⟩ | ⟨i, e, rfl, h1, h2⟩
  · exact ⟨fun _ => h.look_none.2 h1, fun _ => by decide⟩
  · constructor
    · intro hc; omega
    · intro hc; exact absurd h2 (h.look_none.1 hc e (List.mem_of_getElem? h1))
theorem kinds {s : FibS} (hs : s.Ok) {t : Int} (hw : s.way = none) {o : Op} (ho : s.next t = some o) {n m : Int} (h1 : FindR (ordL s.H) o.entry.pair n) (h2 : FindR (ordL s.Wt) o.entry.pair m) :
    (o.kind = 1 ∨ o.kind = 2 ∨ o.kind = 3) ∧ (o.kind = 1 → n < 0 ∧ 0 ≤ m) ∧ (o.kind = 2 → 0 ≤ n ∧ 0 ≤ m) ∧ (o.kind = 3 → 0 ≤ n ∧ m < 0) := by
  have f1 := find_iff hs.h.ordL h1
  have f2 := find_iff hs.w.ordL h2
  obtain ⟨H, Wt, Fl, way⟩ := s
  simp only at hw
  subst hw
  have hm : o ∈ todoL H Wt (ordL H) (ordL Wt) := mem_find ho
  rcases mem_todo hm with ⟨e1, e2, e3⟩ | ⟨e1, e2, e3, e4⟩
  · have := hs.h.ordL.mem.1 e2
    have hn : ¬ n < 0 := fun hc => by have := f1.1 hc; simp_all
    have hm2 : m < 0 := f2.2 e3
    exact ⟨.inr (.inr e1), fun h => by omega, fun h => by omega, fun _ => ⟨by omega, hm2⟩⟩
  · have := hs.w.ordL.mem.1 e2
    have hm2 : ¬ m < 0 := fun hc => by have := f2.1 hc; simp_all
    rcases e4 with ⟨k1, k2⟩ | ⟨k1, k2⟩
    · exact ⟨.inl k1, fun _ => ⟨f1.2 k2, by omega⟩, fun h => by omega, fun h => by omega⟩
    · have hn : ¬ n < 0 := fun hc => by have := f1.1 hc; simp_all
      exact ⟨.inr (.inl k1), fun h => by omega, fun _ => ⟨by omega, by omega⟩, fun h => by omega⟩
theorem dry_iff {s : FibS} (hs : s.Ok) (hw : s.way = none) : s.dry = decide (ordL s.H = ordL s.Wt) := by
  unfold FibS.dry
  rw [hw, Option.isNone_none, Bool.true_and]
  exact decide_eq_decide.2 (FibS.todo_iff hs)
abbrev FibS.with (s : FibS) (o : Op) : FibS := ⟨s.H, s.Wt, s.Fl, some o⟩
abbrev FibS.done (s : FibS) (t : Int) (o : Op) (ok : Bool) : FibS := ⟨replyH s.H o ok, s.Wt, replyF s.Fl t o ok, none⟩
theorem nextA_none (F : Fr) {b : Nat} {s : FibS} (hs : s.Ok) (now : Int) (hn : s.next now = none) : Spec Try.prog 18 #[fp b, .int .i64 now] [FibA b s] F (fun v S => v = .tuple #[.agg (Op.enc Op.zero).toArray, .bool false] ∧ S = [FibA b s]) :=
  (nextA F hs now).mono fun v S h => by
    unfold FibS.gone at h
    rw [hn] at h
    exact h
theorem nextA_some (F : Fr) {b : Nat} {s : FibS} (hs : s.Ok) (now : Int) {o : Op} (hn : s.next now = some o) : Spec Try.prog 18 #[fp b, .int .i64 now] [FibA b s] F (fun v S => v = .tuple #[.agg (Op.enc o).toArray, .bool true] ∧ S = [FibA b (s.with o)]) :=
  (nextA F hs now).mono fun v S h => by
    unfold FibS.gone at h
    rw [hn] at h
    exact h
theorem FibS.Ok.with {s : FibS} (h : s.Ok) (o : Op) : (s.with o).Ok := ⟨h.h, h.w, h.hl, h.wl⟩
theorem replyA_some (F : Fr) {b : Nat} (s : FibS) (o : Op) (now : Int) (hn : -4611686018427387904 ≤ now ∧ now ≤ 4611686018427387904) (ok : Bool) : Spec Try.prog 21 #[fp b, .int .i64 now, .bool ok] [FibA b (s.with o)] F (fun v S => v = .int .i64 0 ∧ S = [FibA b (s.done now o ok)]) := replyA F (s.with o) now hn ok
theorem replyA_none (F : Fr) {b : Nat} (s : FibS) (o : Op) (t now : Int) (hn : -4611686018427387904 ≤ now ∧ now ≤ 4611686018427387904) (ok ok2 : Bool) : Spec Try.prog 21 #[fp b, .int .i64 now, .bool ok2] [FibA b (s.done t o ok)] F (fun v S => v = .int .i64 7 ∧ S = [FibA b (s.done t o ok)]) := replyA F (s.done t o ok) now hn ok2
theorem drainedA_with (F : Fr) {b : Nat} {s : FibS} (hs : s.Ok) (o : Op) : Spec Try.prog 25 #[fp b] [FibA b (s.with o)] F (fun v S => v = .bool false ∧ S = [FibA b (s.with o)]) := drainedA F (hs.with o)
theorem del_list {s : FibS} (hs : s.Ok) {o : Op} (hk : o.kind = 3) {i : Nat} {y : Entry} (hi : (ordL s.H)[i]? = some y) (hy : y.pair = o.entry.pair) : [] ++ ((ordL s.H).take i).drop 0 ++ ((ordL s.H).take (ordL s.H).length).drop (i + 1) = ordL (replyH s.H o true) := by
  have h := hs.h.ordL.del keyCmpE hi
  have hr : replyH s.H o true = adel s.H y.pair := by unfold replyH; rw [if_pos rfl, if_pos hk, hy]
  rw [hr, ordL_eq h, List.eraseIdx_eq_take_drop_succ]
  simp
theorem put_list {s : FibS} (hs : s.Ok) {o : Op} (hk : o.kind ≠ 3) {L' : List Entry} (hp : RPut (ordL s.H) o.entry L') : L' = ordL (replyH s.H o true) := by
  have h := hp.ord hs.h.ordL
  have hr : replyH s.H o true = aset s.H o.entry.pair o.entry := by unfold replyH; rw [if_pos rfl, if_neg hk]
  rw [hr]
  exact (ordL_eq h).symm

theorem FSt.done {s : FibS} {i : Nat} {t : Int} (h : FSt s i t) (o : Op) (ok : Bool) : FSt (s.done t o ok) (i + 1) t := ⟨h.h.reply _ _, h.w, Nat.le_trans (replyH_len _ _ _) (Nat.succ_le_succ h.hl), h.wl, h.fl.reply _ _⟩

theorem law_steps (F : Fr) {a : Option Addr} {c : Nat} {xs : List Law19Act} (hc : xs.length ≤ 9223372036854775807) (ha : ArgSl F a 4 Law19Act.enc xs) (hw : ∀ x ∈ xs, ok47 F x)  : Spec Try.prog 7 #[.slice a xs.length c] [] F (fun v S => v = .bool true ∧ S = []) := by
 refine Spec.intro (N := 167) (args := [.slice a xs.length c]) Try.func7 rfl rfl (by simp) ?_
 refine Run.seq fun k1 hk1 => ?_
 refine Run.region ?_
 show Sq _ _ _ [0] _ _ _ _
 refine Sq.quiet (i := 0) rfl (Want.none rfl) rfl (ltN rfl) (QP.assign rfl rfl).read ?_
 refine Sq.nil ?_
 refine hk1 _ _ ?_
 refine Run.seq fun k2 hk2 => ?_
 refine Run.seq fun k3 hk3 => ?_
 refine Run.region ?_
 show Sq _ _ _ [0, 1, 2] _ _ _ _
 refine Sq.quiet (i := 0) rfl (Want.none rfl) rfl (ltN rfl) (QP.move rfl rfl).read ?_
 refine Sq.eff (i := 1) rfl (Want.none rfl) rfl (ltN rfl) (EF.call rfl ce14 rfl Takes.nil (fun F' hle hr => right_spec F' hc (ha.mono hle))) ?_
 rintro _ _ ⟨_, ⟨rfl, rfl⟩, rfl⟩
 refine J.app ?_
 refine J.caseB (fun c14 => ?_) (fun c14 => ?_)
 ·skip
  refine Sq.quiet (i := 2) rfl (Want.none rfl) rfl (ltN rfl) (QP.not rfl rfl).read ?_
  refine Sq.nil ?_
  refine hk3 _ _ ?_
  refine Run.cond_f rfl ?_
  refine Run.skip ?_
  refine hk2 _ _ ?_
  refine Run.seq fun k4 hk4 => ?_
  refine Run.region ?_
  show Sq _ _ _ [0, 1] _ _ _ _
  refine Sq.eff (i := 0) rfl (Want.none rfl) rfl (ltN rfl) (EF.call rfl ce15 rfl Takes.nil (fun F' hle hr => newA F')) ?_
  rintro _ _ ⟨_, ⟨kb, rfl, rfl⟩, rfl⟩
  refine J.app ?_
  refine Sq.quiet (i := 1) rfl (Want.none rfl) rfl (ltN rfl) (QP.assign rfl rfl).read ?_
  refine Sq.nil ?_
  refine hk4 _ _ ?_
  refine Run.seq fun k5 hk5 => ?_
  refine Run.seq fun k6 hk6 => ?_
  refine Run.region ?_
  show Sq _ _ _ [0, 1] _ _ _ _
  refine Sq.quiet (i := 0) rfl (Want.none rfl) rfl (ltN rfl) (QP.move rfl rfl).read ?_
  refine Sq.quiet (i := 1) rfl (Want.none rfl) rfl (ltN rfl) (QP.ptr_eq_nil rfl rfl rfl Try.underlying30).read ?_
  refine Sq.nil ?_
  refine hk6 _ _ ?_
  refine Run.cond_f rfl ?_
  refine Run.skip ?_
  refine hk5 _ _ ?_
  refine Run.seq fun k7 hk7 => ?_
  refine Run.region ?_
  show Sq _ _ _ [0] _ _ _ _
  have hrt : rightP xs := rightB_true.1 (by simpa using c14)
  have hrl := hrt.1
  refine J.addSl 41 51 Entry.enc ?_
  refine J.slEq (v := .slice none 0 0) (by repeat constructor) (show [] = ordL [] from (ordL_eq (InOrder.nil : OrdE [] [])).symm) ?_
  refine Sq.quiet (i := 0) rfl (Want.none rfl) rfl (ltN rfl) (QP.assign rfl rfl).read ?_
  refine Sq.nil ?_
  refine hk7 _ _ ?_
  refine Run.seq fun k8 hk8 => ?_
  refine Run.region ?_
  show Sq _ _ _ [0] _ _ _ _
  refine Sq.quiet (i := 0) rfl (Want.none rfl) rfl (ltN rfl) (QP.assign rfl rfl).read ?_
  refine Sq.nil ?_
  refine hk8 _ _ ?_
  refine Run.seq fun k9 hk9 => ?_
  refine Run.seq fun k10 hk10 => ?_
  refine Run.region ?_
  show Sq _ _ _ [0] _ _ _ _
  refine Sq.quiet (i := 0) rfl (Want.none rfl) rfl (ltN rfl) (QP.assign rfl rfl).read ?_
  refine Sq.nil ?_
  refine hk10 _ _ ?_
  refine Run.block ?_
  refine Run.loop4 (fun (i : Nat) (t : Int) (s : FibS) (vh : Value) => i ≤ xs.length ∧ (0 ≤ t ∧ t ≤ i * 1073741824) ∧ FSt s i t ∧ s.way = none) (fun i t s vh => .cons 0 (.slice a xs.length c) (.cons 3 (fp kb) (.cons 4 (vh) (.cons 5 (.int .i64 t) (.cons 6 (.int .i64 i) (.nil)))))) (fun i t s vh => [FibA kb s, slA 41 51 Entry.enc vh (ordL s.H)]) (fun i t s vh => xs.length - i) (0) (0) (⟨[], [], [], none⟩) (.slice none 0 0) (⟨Nat.zero_le _, by omega, FSt.new, rfl⟩) ?_ ?_
  ·exact fun _ j => J.envJ (J.keep (.cons (by repeat constructor) (.cons (by repeat constructor) Takes.nil)) j) ⟨rfl, rfl, rfl, rfl, rfl, trivial⟩
  rintro i t s vh ⟨hile, ht, hst, hway⟩ kl11 hl11
  refine Run.seq fun k12 hk12 => ?_
  refine Run.seq fun k13 hk13 => ?_
  refine Run.region ?_
  show Sq _ _ _ [0, 1, 2, 3] _ _ _ _
  refine Sq.quiet (i := 0) rfl (Want.none rfl) rfl (ltN rfl) (QP.move rfl rfl).read ?_
  refine Sq.quiet (i := 1) rfl (Want.none rfl) rfl (ltN rfl) (QP.move rfl rfl).read ?_
  refine Sq.quiet (i := 2) rfl (Want.none rfl) rfl (ltN rfl) (QP.len rfl rfl rfl Try.underlying28).read ?_
  refine Sq.quiet (i := 3) rfl (Want.none rfl) rfl (ltN rfl) (QP.lss rfl rfl rfl).read ?_
  refine J.caseD (fun c23 => ?_) (fun c23 => ?_)
  ·skip
   refine Sq.nil ?_
   refine hk13 _ _ ?_
   refine Run.cond_t rfl ?_
   refine Run.skip ?_
   refine hk12 _ _ ?_
   refine Run.seq fun k14 hk14 => ?_
   refine Run.block ?_
   refine Run.seq fun k15 hk15 => ?_
   refine Run.region ?_
   show Sq _ _ _ [0, 1, 2, 3, 4, 5, 6, 7] _ _ _ _
   have hlt : i < xs.length := by omega
   obtain ⟨x, hi⟩ : ∃ x, xs[i]? = some x := ⟨_, List.getElem?_eq_getElem hlt⟩
   obtain ⟨b0, o0, rfl, hs0⟩ := ha.get (by omega)
   obtain ⟨_, ⟨ys, hn, hyl, hya, _⟩⟩ := hw x (List.mem_of_getElem? hi)
   have hlv : Slc.v x.l = .slice x.l.a ys.length x.l.c := by rw [← hn]; rfl
   have hox := hrt.2 x (List.mem_of_getElem? hi)
   unfold okAct at hox
   have hok := hst.ok (by omega)
   have hLl := hok.h.ordL.length
   have hLh := hst.hl
   have hWl := hok.w.ordL.length
   have hWh := hst.wl
   refine J.slCase (v := vh) (xs := ordL s.H) (by repeat constructor) (fun ah ch hvh hhh => ?_)
   subst hvh
   have hcle := hhh.le
   refine Sq.quiet (i := 0) rfl (Want.none rfl) rfl (ltN rfl) (QP.move rfl rfl).read ?_
   refine Sq.quiet (i := 1) rfl (Want.none rfl) rfl (ltN rfl) (QP.move rfl rfl).read ?_
   refine Sq.quiet (i := 2) rfl (Want.none rfl) rfl (ltN rfl) (QP.move rfl rfl).read ?_
   refine Sq.quiet (i := 3) rfl (Want.none rfl) rfl (ltN rfl) (QP.indexAddr rfl rfl rfl Try.underlying28 z47 (by first | omega | (simp <;> omega)) (by first | omega | (simp <;> omega))).read ?_
   refine Sq.quiet (i := 4) rfl (Want.none rfl) rfl (ltN rfl) (QP.fieldAddr rfl rfl f47_1).read ?_
   refine Sq.quiet (i := 5) rfl (Want.none rfl) rfl (ltN rfl) (QR.loadSlF1 rfl rfl g3 Law19Act.enc_len (hs0 _) hi (Law19Act.sub_gap _)) ?_
   refine Sq.quiet (i := 6) rfl (Want.none rfl) rfl (ltN rfl) (QP.add64 rfl rfl rfl (by first | omega | (simp <;> omega)) (by first | omega | (simp <;> omega))).read ?_
   refine Sq.quiet (i := 7) rfl (Want.none rfl) rfl (ltN rfl) (QP.assign rfl rfl).read ?_
   refine Sq.nil ?_
   refine hk15 _ _ ?_
   refine Run.seq fun k16 hk16 => ?_
   refine Run.seq fun k17 hk17 => ?_
   refine Run.region ?_
   show Sq _ _ _ [0, 1, 2, 3, 4, 5] _ _ _ _
   refine Sq.quiet (i := 0) rfl (Want.none rfl) rfl (ltN rfl) (QP.move rfl rfl).read ?_
   refine Sq.quiet (i := 1) rfl (Want.none rfl) rfl (ltN rfl) (QP.move rfl rfl).read ?_
   refine Sq.quiet (i := 2) rfl (Want.none rfl) rfl (ltN rfl) (QP.indexAddr rfl rfl rfl Try.underlying28 z47 (by first | omega | (simp <;> omega)) (by first | omega | (simp <;> omega))).read ?_
   refine Sq.quiet (i := 3) rfl (Want.none rfl) rfl (ltN rfl) (QP.fieldAddr rfl rfl f47_0).read ?_
   refine Sq.quiet (i := 4) rfl (Want.none rfl) rfl (ltN rfl) (QR.loadSlF1 rfl rfl g3 Law19Act.enc_len (hs0 _) hi (Law19Act.sub_kind _)) ?_
   refine Sq.quiet (i := 5) rfl (Want.none rfl) rfl (ltN rfl) (QP.eql rfl rfl rfl).read ?_
   refine J.caseD (fun c38 => ?_) (fun c38 => ?_)
   ·skip
    refine Sq.nil ?_
    refine hk17 _ _ ?_
    refine Run.cond_t rfl ?_
    refine Run.seq fun k18 hk18 => ?_
    refine Run.region ?_
    show Sq _ _ _ [0, 1, 2, 3, 4, 5, 6] _ _ _ _
    refine Sq.quiet (i := 0) rfl (Want.none rfl) rfl (ltN rfl) (QP.move rfl rfl).read ?_
    refine Sq.quiet (i := 1) rfl (Want.none rfl) rfl (ltN rfl) (QP.move rfl rfl).read ?_
    refine Sq.quiet (i := 2) rfl (Want.none rfl) rfl (ltN rfl) (QP.move rfl rfl).read ?_
    refine Sq.quiet (i := 3) rfl (Want.none rfl) rfl (ltN rfl) (QP.indexAddr rfl rfl rfl Try.underlying28 z47 (by first | omega | (simp <;> omega)) (by first | omega | (simp <;> omega))).read ?_
    refine Sq.quiet (i := 4) rfl (Want.none rfl) rfl (ltN rfl) (QP.fieldAddr rfl rfl f47_2).read ?_
    refine Sq.quiet (i := 5) rfl (Want.none rfl) rfl (ltN rfl) (QR.loadSlF1 rfl rfl g22 Law19Act.enc_len (hs0 _) hi (Law19Act.sub_l _)) ?_
    rw [hlv]
    refine Sq.eff (i := 6) rfl (Want.none rfl) rfl (ltN rfl) (EF.call rfl ce16 rfl (.cons (by repeat constructor) Takes.nil) (fun F' hle hr => wantA F' s (xs := ys) (hya.mono hle) (by omega))) ?_
    rintro _ _ ⟨_, ⟨L', rfl, hex, rfl⟩, rfl⟩
    refine J.app ?_
    refine Sq.nil ?_
    refine hk18 _ _ ?_
    refine Run.exit rfl ?_
    refine hk14 _ _ ?_
    refine Run.region ?_
    show Sq _ _ _ [0, 1, 2] _ _ _ _
    refine Sq.quiet (i := 0) rfl (Want.none rfl) rfl (ltN rfl) (QP.move rfl rfl).read ?_
    refine Sq.quiet (i := 1) rfl (Want.none rfl) rfl (ltN rfl) (QP.add64 rfl rfl rfl (by first | omega | (simp <;> omega)) (by first | omega | (simp <;> omega))).read ?_
    refine Sq.quiet (i := 2) rfl (Want.none rfl) rfl (ltN rfl) (QP.assign rfl rfl).read ?_
    refine Sq.nil ?_
    exact J.envJ (J.keep (.cons (by repeat constructor) (.cons (by repeat constructor) Takes.nil)) (hl11 (i + 1) ((t + x.gap)) (_) (.slice ah (ordL s.H).length ch) (⟨by omega, by omega, (hst.want hex (by omega)).later (Nat.le_succ i) (by omega), hway⟩) (by omega))) ⟨rfl, rfl, rfl, rfl, rfl, trivial⟩
   ·skip
    refine Sq.nil ?_
    refine hk17 _ _ ?_
    refine Run.cond_f rfl ?_
    refine Run.skip ?_
    refine hk16 _ _ ?_
    refine Run.seq fun k19 hk19 => ?_
    refine Run.region ?_
    show Sq _ _ _ [0, 1, 2, 3, 4, 5, 6, 7, 8] _ _ _ _
    refine Sq.quiet (i := 0) rfl (Want.none rfl) rfl (ltN rfl) (QP.move rfl rfl).read ?_
    refine Sq.quiet (i := 1) rfl (Want.none rfl) rfl (ltN rfl) (QP.move rfl rfl).read ?_
    rcases hnx : s.next (t + x.gap) with _ | o
    ·skip
     refine Sq.eff (i := 2) rfl (Want.none rfl) rfl (ltN rfl) (EF.call rfl ce18 rfl (.cons (by repeat constructor) Takes.nil) (fun F' hle hr => nextA_none F' hok _ hnx)) ?_
     rintro _ _ ⟨_, ⟨rfl, rfl⟩, rfl⟩
     refine J.app ?_
     refine Sq.quiet (i := 3) rfl (Want.none rfl) rfl (ltN rfl) (QP.move rfl rfl).read ?_
     refine Sq.quiet (i := 4) rfl (Want.none rfl) rfl (ltN rfl) (QP.extract rfl rfl rfl).read ?_
     refine Sq.quiet (i := 5) rfl (Want.none rfl) rfl (ltN rfl) (QP.extract rfl rfl rfl).read ?_
     refine Sq.eff (i := 6) rfl (Want.none rfl) rfl (ltN rfl) (EF.allocA (l := Op.enc Op.zero) rfl zero43) ?_
     rintro _ _ ⟨b7, rfl, rfl⟩
     refine Sq.act (i := 7) rfl (Want.none rfl) rfl (EF.storeA rfl rfl rfl z43 (SetL.all (Op.enc_len _) (Op.enc_len _)) (Op.enc_cell _)) ?_
     rintro _ _ rfl
     refine Sq.quiet (i := 8) rfl (Want.none rfl) rfl (ltN rfl) (QP.assign rfl rfl).read ?_
     refine Sq.nil ?_
     refine hk19 _ _ ?_
     refine Run.seq fun k20 hk20 => ?_
     refine Run.seq fun k21 hk21 => ?_
     refine Run.region ?_
     show Sq _ _ _ [0, 1] _ _ _ _
     refine Sq.quiet (i := 0) rfl (Want.none rfl) rfl (ltN rfl) (QP.move rfl rfl).read ?_
     refine Sq.quiet (i := 1) rfl (Want.none rfl) rfl (ltN rfl) (QP.not rfl rfl).read ?_
     refine Sq.nil ?_
     refine hk21 _ _ ?_
     refine Run.cond_t rfl ?_
     refine Run.seq fun k22 hk22 => ?_
     refine Run.seq fun k23 hk23 => ?_
     refine Run.region ?_
     show Sq _ _ _ [0, 1, 2, 3, 4, 5, 6] _ _ _ _
     refine Sq.quiet (i := 0) rfl (Want.none rfl) rfl (ltN rfl) (QP.move rfl rfl).read ?_
     refine Sq.eff (i := 1) rfl (Want.none rfl) rfl (ltN rfl) (EF.call rfl ce25 rfl (.cons (by repeat constructor) Takes.nil) (fun F' hle hr => drainedA F' hok)) ?_
     rintro _ _ ⟨_, ⟨rfl, rfl⟩, rfl⟩
     refine J.app ?_
     refine Sq.quiet (i := 2) rfl (Want.none rfl) rfl (ltN rfl) (QP.move rfl rfl).read ?_
     refine Sq.quiet (i := 3) rfl (Want.none rfl) rfl (ltN rfl) (QP.move rfl rfl).read ?_
     refine Sq.eff (i := 4) rfl (Want.none rfl) rfl (ltN rfl) (EF.call rfl ce28 rfl (.cons (by repeat constructor) Takes.nil) (fun F' hle hr => wantedA F' hok)) ?_
     rintro v58 _ ⟨_, rfl, rfl⟩
     refine J.app ?_
     refine Sq.slCase (v := v58) (xs := ordL s.Wt) (by repeat constructor) (fun a58 c58 hv58 hh58 => ?_)
     subst hv58
     refine Sq.eff (i := 5) rfl (Want.none rfl) rfl (ltN rfl) (EF.call rfl ce11 rfl (.cons (by repeat constructor) (.cons (by repeat constructor) Takes.nil)) (fun F' hle hr => sameE F' hhh hh58 (by omega) (by omega))) ?_
     rintro _ _ ⟨_, ⟨rfl, rfl⟩, rfl⟩
     refine J.app ?_
     refine Sq.quiet (i := 6) rfl (Want.none rfl) rfl (ltN rfl) (QP.neqB rfl rfl rfl Try.underlying4).read ?_
     refine J.boolF (by rw [dry_iff hok hway]; simp) ?_
     refine Sq.nil ?_
     refine hk23 _ _ ?_
     refine Run.cond_f rfl ?_
     refine Run.skip ?_
     refine hk22 _ _ ?_
     refine Run.exit rfl ?_
     refine hk14 _ _ ?_
     refine Run.region ?_
     show Sq _ _ _ [0, 1, 2] _ _ _ _
     refine Sq.quiet (i := 0) rfl (Want.none rfl) rfl (ltN rfl) (QP.move rfl rfl).read ?_
     refine Sq.quiet (i := 1) rfl (Want.none rfl) rfl (ltN rfl) (QP.add64 rfl rfl rfl (by first | omega | (simp <;> omega)) (by first | omega | (simp <;> omega))).read ?_
     refine Sq.quiet (i := 2) rfl (Want.none rfl) rfl (ltN rfl) (QP.assign rfl rfl).read ?_
     refine Sq.nil ?_
     exact J.envJ (J.keep (.cons (by repeat constructor) (.cons (by repeat constructor) Takes.nil)) (hl11 (i + 1) ((t + x.gap)) (_) (.slice ah (ordL s.H).length ch) (⟨by omega, by omega, hst.later (Nat.le_succ i) (by omega), hway⟩) (by omega))) ⟨rfl, rfl, rfl, rfl, rfl, trivial⟩
    ·skip
     refine Sq.eff (i := 2) rfl (Want.none rfl) rfl (ltN rfl) (EF.call rfl ce18 rfl (.cons (by repeat constructor) Takes.nil) (fun F' hle hr => nextA_some F' hok _ hnx)) ?_
     rintro _ _ ⟨_, ⟨rfl, rfl⟩, rfl⟩
     refine J.app ?_
     refine Sq.quiet (i := 3) rfl (Want.none rfl) rfl (ltN rfl) (QP.move rfl rfl).read ?_
     refine Sq.quiet (i := 4) rfl (Want.none rfl) rfl (ltN rfl) (QP.extract rfl rfl rfl).read ?_
     refine Sq.quiet (i := 5) rfl (Want.none rfl) rfl (ltN rfl) (QP.extract rfl rfl rfl).read ?_
     refine Sq.eff (i := 6) rfl (Want.none rfl) rfl (ltN rfl) (EF.allocA (l := Op.enc Op.zero) rfl zero43) ?_
     rintro _ _ ⟨b7, rfl, rfl⟩
     refine Sq.act (i := 7) rfl (Want.none rfl) rfl (EF.storeA rfl rfl rfl z43 (SetL.all (Op.enc_len _) (Op.enc_len _)) (Op.enc_cell _)) ?_
     rintro _ _ rfl
     refine Sq.quiet (i := 8) rfl (Want.none rfl) rfl (ltN rfl) (QP.assign rfl rfl).read ?_
     refine Sq.nil ?_
     refine hk19 _ _ ?_
     refine Run.seq fun k24 hk24 => ?_
     refine Run.seq fun k25 hk25 => ?_
     refine Run.region ?_
     show Sq _ _ _ [0, 1] _ _ _ _
     refine Sq.quiet (i := 0) rfl (Want.none rfl) rfl (ltN rfl) (QP.move rfl rfl).read ?_
     refine Sq.quiet (i := 1) rfl (Want.none rfl) rfl (ltN rfl) (QP.not rfl rfl).read ?_
     refine Sq.nil ?_
     refine hk25 _ _ ?_
     refine Run.cond_f rfl ?_
     refine Run.skip ?_
     refine hk24 _ _ ?_
     refine Run.seq fun k26 hk26 => ?_
     refine Run.region ?_
     show Sq _ _ _ [0, 1, 2, 3, 4, 5, 6, 7, 8] _ _ _ _
     refine Sq.quiet (i := 0) rfl (Want.none rfl) rfl (ltN rfl) (QP.move rfl rfl).read ?_
     refine Sq.quiet (i := 1) rfl (Want.none rfl) rfl (ltN rfl) (QP.move rfl rfl).read ?_
     refine Sq.eff (i := 2) rfl (Want.none rfl) rfl (ltN rfl) (EF.call rfl ce18 rfl (.cons (by repeat constructor) Takes.nil) (fun F' hle hr => nextA F' (hok.with o) _)) ?_
     rintro _ _ ⟨_, ⟨rfl, rfl⟩, rfl⟩
     refine J.app ?_
     refine Sq.quiet (i := 3) rfl (Want.none rfl) rfl (ltN rfl) (QP.move rfl rfl).read ?_
     refine Sq.quiet (i := 4) rfl (Want.none rfl) rfl (ltN rfl) (QP.extract rfl rfl rfl).read ?_
     refine Sq.quiet (i := 5) rfl (Want.none rfl) rfl (ltN rfl) (QP.extract rfl rfl rfl).read ?_
     refine Sq.eff (i := 6) rfl (Want.none rfl) rfl (ltN rfl) (EF.allocA (l := Op.enc Op.zero) rfl zero43) ?_
     rintro _ _ ⟨b9, rfl, rfl⟩
     refine Sq.act (i := 7) rfl (Want.none rfl) rfl (EF.storeA rfl rfl rfl z43 (SetL.all (Op.enc_len _) (Op.enc_len _)) (Op.enc_cell _)) ?_
     rintro _ _ rfl
     refine Sq.quiet (i := 8) rfl (Want.none rfl) rfl (ltN rfl) (QP.assign rfl rfl).read ?_
     refine Sq.nil ?_
     refine hk26 _ _ ?_
     refine Run.seq fun k27 hk27 => ?_
     refine Run.region ?_
     show Sq _ _ _ [0, 1, 2, 3, 4, 5] _ _ _ _
     refine Sq.quiet (i := 0) rfl (Want.none rfl) rfl (ltN rfl) (QP.move rfl rfl).read ?_
     refine Sq.quiet (i := 1) rfl (Want.none rfl) rfl (ltN rfl) (QP.fieldAddr rfl rfl f43_1).read ?_
     refine Sq.quiet (i := 2) rfl (Want.none rfl) rfl (ltN rfl) (QP.fieldAddr rfl rfl f41_0).read ?_
     refine Sq.quiet (i := 3) rfl (Want.none rfl) rfl (ltN rfl) (QR.load rfl rfl g39 ((Op.sub_entry _).trans (Entry.sub_pair _))) ?_
     refine Sq.eff (i := 4) rfl (Want.none rfl) rfl (ltN rfl) (EF.call rfl ce29 rfl (.cons (by repeat constructor) Takes.nil) (fun F' hle hr => find_spec F' (by omega) hhh _)) ?_
     rintro _ _ ⟨_, ⟨rfl, n71, rfl, hf71⟩, rfl⟩
     refine J.app ?_
     refine Sq.quiet (i := 5) rfl (Want.none rfl) rfl (ltN rfl) (QP.assign rfl rfl).read ?_
     refine Sq.nil ?_
     refine hk27 _ _ ?_
     refine Run.seq fun k28 hk28 => ?_
     refine Run.regionD (M := [0, 1, 0, 4, 12, 31, 63]) (q := 29) (r := 16) (by kernel_rfl) ?_
     refine Dw.pure (i := 0) rfl (by kernel_rfl) (Want.none rfl) rfl (ltN rfl) (QP.move rfl rfl) ?_
     refine Dw.pure (i := 2) rfl (by kernel_rfl) (Want.none rfl) rfl (ltN rfl) (QP.fieldAddr rfl rfl f43_1) ?_
     refine Dw.pure (i := 3) rfl (by kernel_rfl) (Want.none rfl) rfl (ltN rfl) (QP.fieldAddr rfl rfl f41_0) ?_
     refine Dw.read (i := 4) rfl (by kernel_rfl) (Want.none rfl) rfl (ltN rfl) (QR.load rfl rfl g39 ((Op.sub_entry _).trans (Entry.sub_pair _))) ?_
     refine Dw.eff (i := 1) (by kernel_rfl) (by kernel_rfl) ?_
     refine One.mk (o := _) (l := [4]) rfl (by kernel_rfl) (Want.none rfl) rfl (ltN rfl) (EF.call rfl ce28 rfl (.cons (by repeat constructor) Takes.nil) (fun F' hle hr => wantedA F' (hok.with o))) (by kernel_rfl) ?_
     rintro v73 _ ⟨_, rfl, rfl⟩
     refine ⟨?_, ?_⟩
     ·rw [List.forall_mem_cons]
      refine ⟨?_, fun _ h => (by cases h)⟩
      ·refine Look.app ?_
       exact Look.mk rfl rfl rfl (QR.load rfl rfl g39 ((Op.sub_entry _).trans (Entry.sub_pair _)))
     refine ?_
     refine J.app ?_
     refine Dw.slCase (v := v73) (xs := ordL s.Wt) (by repeat constructor) (fun a73 c73 hv73 hh73 => ?_)
     subst hv73
     refine Dw.eff (i := 5) (by kernel_rfl) (by kernel_rfl) ?_
     refine One.mk (o := _) (l := []) rfl (by kernel_rfl) (Want.none rfl) rfl (ltN rfl) (EF.call rfl ce29 rfl (.cons (by repeat constructor) Takes.nil) (fun F' hle hr => find_spec F' (by omega) hh73 _)) (by kernel_rfl) ?_
     rintro _ _ ⟨_, ⟨rfl, n77, rfl, hf77⟩, rfl⟩
     refine ⟨fun _ h => (by cases h), ?_⟩
     refine J.app ?_
     refine Dw.eff (i := 6) (by kernel_rfl) (by kernel_rfl) ?_
     refine One.mk (o := _) (l := []) rfl (by kernel_rfl) (Want.none rfl) rfl (ltN rfl) ((QP.assign rfl rfl).eff) (by kernel_rfl) ?_
     rintro _ _ ⟨rfl, rfl⟩
     refine ⟨fun _ h => (by cases h), ?_⟩
     refine Dw.nil (by kernel_rfl) ?_
     refine hk28 _ _ ?_
     refine Run.seq fun k29 hk29 => ?_
     refine Run.seq fun k30 hk30 => ?_
     refine Run.region ?_
     show Sq _ _ _ [0, 1, 2, 3, 4, 5, 6, 7, 8, 9, 10, 11, 12, 13, 14, 15, 16, 17, 18, 19, 20, 21, 22, 23, 24, 25, 26, 27, 28, 29, 30, 31, 32, 33, 34, 35, 36, 37, 38, 39, 40, 41, 42, 43] _ _ _ _
     obtain ⟨hkk, hk1, hk2, hk3⟩ := kinds hok hway hnx hf71 hf77
     refine Sq.quiet (i := 0) rfl (Want.none rfl) rfl (ltN rfl) (QP.move rfl rfl).read ?_
     refine Sq.quiet (i := 1) rfl (Want.none rfl) rfl (ltN rfl) (QP.move rfl rfl).read ?_
     refine Sq.quiet (i := 2) rfl (Want.yes rfl rfl rfl rfl) rfl (ltN rfl) (QP.move rfl rfl).read ?_
     refine Sq.eff (i := 3) rfl (Want.yes rfl rfl rfl rfl) rfl (ltN rfl) (EF.call rfl ce25 rfl (.cons (by repeat constructor) Takes.nil) (fun F' hle hr => drainedA_with F' hok o)) ?_
     rintro _ _ ⟨_, ⟨rfl, rfl⟩, rfl⟩
     refine J.app ?_
     refine Sq.quiet (i := 4) rfl (Want.none rfl) rfl (ltN rfl) (QP.pick_f rfl rfl rfl).read ?_
     refine Sq.quiet (i := 5) rfl (Want.none rfl) rfl (ltN rfl) (QP.move rfl rfl).read ?_
     refine Sq.quiet (i := 6) rfl (Want.yes rfl rfl rfl rfl) rfl (ltN rfl) (QP.fieldAddr rfl rfl f43_0).read ?_
     refine Sq.quiet (i := 7) rfl (Want.yes rfl rfl rfl rfl) rfl (ltN rfl) (QR.load1 rfl rfl g3 (Op.sub_kind _)) ?_
     refine Sq.quiet (i := 8) rfl (Want.yes rfl rfl rfl rfl) rfl (ltN rfl) (QP.eql rfl rfl rfl).read ?_
     refine J.caseD (fun c86 => ?_) (fun c86 => ?_)
     ·skip
      refine Sq.quiet (i := 9) rfl (Want.yes rfl rfl rfl rfl) rfl (ltN rfl) (QP.move rfl rfl).read ?_
      refine Sq.quiet (i := 10) rfl (Want.yes rfl rfl rfl rfl) rfl (ltN rfl) (QP.move rfl rfl).read ?_
      refine Sq.quiet (i := 11) rfl (Want.yes rfl rfl rfl rfl) rfl (ltN rfl) (QP.geq rfl rfl rfl).read ?_
      refine J.decF (by have := hk1 c86; omega) ?_
      refine Sq.quiet (i := 12) rfl (Want.yes rfl rfl rfl rfl) rfl (ltN rfl) (QP.move rfl rfl).read ?_
      refine Sq.quiet (i := 13) rfl (Want.yes rfl rfl rfl rfl) rfl (ltN rfl) (QP.move rfl rfl).read ?_
      refine Sq.quiet (i := 14) rfl (Want.yes rfl rfl rfl rfl) rfl (ltN rfl) (QP.lss rfl rfl rfl).read ?_
      refine J.decF (by have := hk1 c86; omega) ?_
      refine Sq.quiet (i := 15) rfl (Want.yes rfl rfl rfl rfl) rfl (ltN rfl) (QP.pick_f rfl rfl rfl).read ?_
      refine Sq.quiet (i := 16) rfl (Want.yes rfl rfl rfl rfl) rfl (ltN rfl) (QP.pick_t rfl rfl rfl).read ?_
      refine Sq.quiet (i := 17) rfl (Want.none rfl) rfl (ltN rfl) (QP.pick_f rfl rfl rfl).read ?_
      refine Sq.quiet (i := 18) rfl (Want.none rfl) rfl (ltN rfl) (QP.move rfl rfl).read ?_
      refine Sq.quiet (i := 19) rfl (Want.yes rfl rfl rfl rfl) rfl (ltN rfl) (QP.fieldAddr rfl rfl f43_0).read ?_
      refine Sq.quiet (i := 20) rfl (Want.yes rfl rfl rfl rfl) rfl (ltN rfl) (QR.load1 rfl rfl g3 (Op.sub_kind _)) ?_
      refine Sq.quiet (i := 21) rfl (Want.yes rfl rfl rfl rfl) rfl (ltN rfl) (QP.eql rfl rfl rfl).read ?_
      refine J.decF (by omega) ?_
      refine Sq.quiet (i := 22) rfl (Want.yes rfl rfl rfl rfl) rfl (ltN rfl) (QP.move rfl rfl).read ?_
      refine Sq.skip (i := 23) rfl (Want.no rfl rfl rfl rfl) rfl (ltN rfl) ?_
      refine Sq.skip (i := 24) rfl (Want.no rfl rfl rfl rfl) rfl (ltN rfl) ?_
      refine Sq.skip (i := 25) rfl (Want.no rfl rfl rfl rfl) rfl (ltN rfl) ?_
      refine Sq.skip (i := 26) rfl (Want.undef rfl rfl rfl) rfl (ltN rfl) ?_
      refine Sq.skip (i := 27) rfl (Want.undef rfl rfl rfl) rfl (ltN rfl) ?_
      refine Sq.skip (i := 28) rfl (Want.no rfl rfl rfl rfl) rfl (ltN rfl) ?_
      refine Sq.quiet (i := 29) rfl (Want.yes rfl rfl rfl rfl) rfl (ltN rfl) (QP.pick_f rfl rfl rfl).read ?_
      refine Sq.quiet (i := 30) rfl (Want.none rfl) rfl (ltN rfl) (QP.pick_f rfl rfl rfl).read ?_
      refine Sq.quiet (i := 31) rfl (Want.none rfl) rfl (ltN rfl) (QP.move rfl rfl).read ?_
      refine Sq.quiet (i := 32) rfl (Want.yes rfl rfl rfl rfl) rfl (ltN rfl) (QP.fieldAddr rfl rfl f43_0).read ?_
      refine Sq.quiet (i := 33) rfl (Want.yes rfl rfl rfl rfl) rfl (ltN rfl) (QR.load1 rfl rfl g3 (Op.sub_kind _)) ?_
      refine Sq.quiet (i := 34) rfl (Want.yes rfl rfl rfl rfl) rfl (ltN rfl) (QP.eql rfl rfl rfl).read ?_
      refine J.decF (by omega) ?_
      refine Sq.quiet (i := 35) rfl (Want.yes rfl rfl rfl rfl) rfl (ltN rfl) (QP.move rfl rfl).read ?_
      refine Sq.skip (i := 36) rfl (Want.no rfl rfl rfl rfl) rfl (ltN rfl) ?_
      refine Sq.skip (i := 37) rfl (Want.no rfl rfl rfl rfl) rfl (ltN rfl) ?_
      refine Sq.skip (i := 38) rfl (Want.no rfl rfl rfl rfl) rfl (ltN rfl) ?_
      refine Sq.skip (i := 39) rfl (Want.undef rfl rfl rfl) rfl (ltN rfl) ?_
      refine Sq.skip (i := 40) rfl (Want.undef rfl rfl rfl) rfl (ltN rfl) ?_
      refine Sq.skip (i := 41) rfl (Want.no rfl rfl rfl rfl) rfl (ltN rfl) ?_
      refine Sq.quiet (i := 42) rfl (Want.yes rfl rfl rfl rfl) rfl (ltN rfl) (QP.pick_f rfl rfl rfl).read ?_
      refine Sq.quiet (i := 43) rfl (Want.none rfl) rfl (ltN rfl) (QP.pick_f rfl rfl rfl).read ?_
      refine Sq.nil ?_
      refine hk30 _ _ ?_
      refine Run.cond_f rfl ?_
      refine Run.skip ?_
      refine hk29 _ _ ?_
      refine Run.seq fun k31 hk31 => ?_
      refine Run.seq fun k32 hk32 => ?_
      refine Run.region ?_
      show Sq _ _ _ [0, 1, 2, 3, 4, 5, 6, 7, 8, 9, 10, 11, 12, 13, 14, 15, 16] _ _ _ _
      refine Sq.quiet (i := 0) rfl (Want.none rfl) rfl (ltN rfl) (QP.move rfl rfl).read ?_
      refine Sq.quiet (i := 1) rfl (Want.none rfl) rfl (ltN rfl) (QP.move rfl rfl).read ?_
      refine Sq.quiet (i := 2) rfl (Want.none rfl) rfl (ltN rfl) (QP.move rfl rfl).read ?_
      refine Sq.quiet (i := 3) rfl (Want.none rfl) rfl (ltN rfl) (QP.move rfl rfl).read ?_
      refine Sq.quiet (i := 4) rfl (Want.none rfl) rfl (ltN rfl) (QP.indexAddr rfl rfl rfl Try.underlying28 z47 (by first | omega | (simp <;> omega)) (by first | omega | (simp <;> omega))).read ?_
      refine Sq.quiet (i := 5) rfl (Want.none rfl) rfl (ltN rfl) (QP.fieldAddr rfl rfl f47_3).read ?_
      refine Sq.quiet (i := 6) rfl (Want.none rfl) rfl (ltN rfl) (QR.loadSlF1 rfl rfl g4 Law19Act.enc_len (hs0 _) hi (Law19Act.sub_ok _)) ?_
      refine Sq.eff (i := 7) rfl (Want.none rfl) rfl (ltN rfl) (EF.call rfl ce21 rfl (.cons (by repeat constructor) Takes.nil) (fun F' hle hr => replyA_some F' s o _ (by omega) _)) ?_
      rintro _ _ ⟨_, ⟨rfl, rfl⟩, rfl⟩
      refine J.app ?_
      refine Sq.eff (i := 8) rfl (Want.none rfl) rfl (ltN rfl) (EF.call rfl ce20 rfl Takes.nil (fun F' hle hr => num_spec F' _)) ?_
      rintro _ _ ⟨_, ⟨rfl, rfl⟩, rfl⟩
      refine J.app ?_
      refine Sq.quiet (i := 9) rfl (Want.none rfl) rfl (ltN rfl) (QP.neq rfl rfl rfl).read ?_
      refine Sq.quiet (i := 10) rfl (Want.none rfl) rfl (ltN rfl) (QP.move rfl rfl).read ?_
      refine Sq.quiet (i := 11) rfl (Want.yes rfl rfl rfl rfl) rfl (ltN rfl) (QP.move rfl rfl).read ?_
      refine Sq.quiet (i := 12) rfl (Want.yes rfl rfl rfl rfl) rfl (ltN rfl) (QP.move rfl rfl).read ?_
      refine Sq.eff (i := 13) rfl (Want.yes rfl rfl rfl rfl) rfl (ltN rfl) (EF.call rfl ce21 rfl (.cons (by repeat constructor) Takes.nil) (fun F' hle hr => replyA_none F' s o (t + x.gap) _ (by omega) _ _)) ?_
      rintro _ _ ⟨_, ⟨rfl, rfl⟩, rfl⟩
      refine J.app ?_
      refine Sq.eff (i := 14) rfl (Want.yes rfl rfl rfl rfl) rfl (ltN rfl) (EF.call rfl ce20 rfl Takes.nil (fun F' hle hr => num_spec F' _)) ?_
      rintro _ _ ⟨_, ⟨rfl, rfl⟩, rfl⟩
      refine J.app ?_
      refine Sq.quiet (i := 15) rfl (Want.yes rfl rfl rfl rfl) rfl (ltN rfl) (QP.neq rfl rfl rfl).read ?_
      refine Sq.quiet (i := 16) rfl (Want.none rfl) rfl (ltN rfl) (QP.pick_f rfl rfl rfl).read ?_
      refine Sq.nil ?_
      refine hk32 _ _ ?_
      refine Run.cond_f rfl ?_
      refine Run.skip ?_
      refine hk31 _ _ ?_
      refine Run.seq fun k33 hk33 => ?_
      refine Run.seq fun k34 hk34 => ?_
      refine Run.region ?_
      show Sq _ _ _ [0, 1, 2, 3, 4] _ _ _ _
      refine Sq.quiet (i := 0) rfl (Want.none rfl) rfl (ltN rfl) (QP.move rfl rfl).read ?_
      refine Sq.quiet (i := 1) rfl (Want.none rfl) rfl (ltN rfl) (QP.move rfl rfl).read ?_
      refine Sq.quiet (i := 2) rfl (Want.none rfl) rfl (ltN rfl) (QP.indexAddr rfl rfl rfl Try.underlying28 z47 (by first | omega | (simp <;> omega)) (by first | omega | (simp <;> omega))).read ?_
      refine Sq.quiet (i := 3) rfl (Want.none rfl) rfl (ltN rfl) (QP.fieldAddr rfl rfl f47_3).read ?_
      refine Sq.quiet (i := 4) rfl (Want.none rfl) rfl (ltN rfl) (QR.loadSlF1 rfl rfl g4 Law19Act.enc_len (hs0 _) hi (Law19Act.sub_ok _)) ?_
      refine J.caseB (fun c143 => ?_) (fun c143 => ?_)
      ·skip
       refine Sq.nil ?_
       refine hk34 _ _ ?_
       refine Run.cond_t rfl ?_
       refine Run.seq fun k35 hk35 => ?_
       refine Run.region ?_
       show Sq _ _ _ [0, 1, 2] _ _ _ _
       refine Sq.quiet (i := 0) rfl (Want.none rfl) rfl (ltN rfl) (QP.fieldAddr rfl rfl f43_0).read ?_
       refine Sq.quiet (i := 1) rfl (Want.none rfl) rfl (ltN rfl) (QR.load1 rfl rfl g3 (Op.sub_kind _)) ?_
       refine Sq.quiet (i := 2) rfl (Want.none rfl) rfl (ltN rfl) (QP.eql rfl rfl rfl).read ?_
       refine J.decF (by omega) ?_
       refine Sq.nil ?_
       refine hk35 _ _ ?_
       refine Run.cond_f rfl ?_
       refine Run.region ?_
       show Sq _ _ _ [0, 1, 2, 3, 4] _ _ _ _
       refine Sq.quiet (i := 0) rfl (Want.none rfl) rfl (ltN rfl) (QP.move rfl rfl).read ?_
       refine Sq.quiet (i := 1) rfl (Want.none rfl) rfl (ltN rfl) (QP.fieldAddr rfl rfl f43_1).read ?_
       refine Sq.quiet (i := 2) rfl (Want.none rfl) rfl (ltN rfl) (QR.load rfl rfl g41 (Op.sub_entry _)) ?_
       refine Sq.eff (i := 3) rfl (Want.none rfl) rfl (ltN rfl) (EF.call rfl ce30 rfl (.cons (by repeat constructor) Takes.nil) (fun F' hle hr => put_spec F' hhh (by omega) (hok.h.ordL.sort) o.entry)) ?_
       rintro v160 _ ⟨_, ⟨L2, hput, rfl⟩, rfl⟩
       refine J.app ?_
       refine Sq.quiet (i := 4) rfl (Want.none rfl) rfl (ltN rfl) (QP.assign rfl rfl).read ?_
       refine Sq.nil ?_
       refine hk33 _ _ ?_
       refine Run.seq fun k36 hk36 => ?_
       refine Run.region ?_
       show Sq _ _ _ [0, 1, 2, 3, 4] _ _ _ _
       have hst3 : FSt (s.done (t + x.gap) o x.ok) (i + 1) (t + x.gap) := (hst.later (Nat.le_refl i) (show t ≤ (t + x.gap) by omega)).done o x.ok
       have hok3 := hst3.ok (by omega)
       have hq3 : (ordL (s.done (t + x.gap) o x.ok).H).length ≤ 1000000 := by rw [hok3.h.ordL.length]; exact Nat.le_trans hst3.hl (by omega)
       refine J.slEq (v := v160) (by repeat constructor) (show _ = ordL (s.done (t + x.gap) o x.ok).H by show _ = ordL (replyH s.H o x.ok); rw [c143]; exact put_list hok (by omega) hput) ?_
       refine Sq.slCase (v := v160) (xs := ordL (s.done (t + x.gap) o x.ok).H) (by repeat constructor) (fun aE cE hvE hhE => ?_)
       rw [hvE]
       refine Sq.quiet (i := 0) rfl (Want.none rfl) rfl (ltN rfl) (QP.move rfl rfl).read ?_
       refine Sq.eff (i := 1) rfl (Want.none rfl) rfl (ltN rfl) (EF.call rfl ce27 rfl (.cons (by repeat constructor) Takes.nil) (fun F' hle hr => hasA F' hok3)) ?_
       rintro v162 _ ⟨_, rfl, rfl⟩
       refine J.app ?_
       refine Sq.slCase (v := v162) (xs := ordL (s.done (t + x.gap) o x.ok).H) (by repeat constructor) (fun a162 c162 hv162 hh162 => ?_)
       subst hv162
       refine Sq.quiet (i := 2) rfl (Want.none rfl) rfl (ltN rfl) (QP.move rfl rfl).read ?_
       refine Sq.eff (i := 3) rfl (Want.none rfl) rfl (ltN rfl) (EF.call rfl ce11 rfl (.cons (by repeat constructor) (.cons (by repeat constructor) Takes.nil)) (fun F' hle hr => sameE F' hh162 hhE (by omega) (by omega))) ?_
       rintro _ _ ⟨_, ⟨rfl, rfl⟩, rfl⟩
       refine J.app ?_
       refine J.boolT (decide_eq_true rfl) ?_
       refine Sq.quiet (i := 4) rfl (Want.none rfl) rfl (ltN rfl) (QP.not rfl rfl).read ?_
       refine Sq.nil ?_
       refine hk36 _ _ ?_
       refine Run.cond_f rfl ?_
       refine Run.skip ?_
       refine hk14 _ _ ?_
       refine Run.region ?_
       show Sq _ _ _ [0, 1, 2] _ _ _ _
       refine Sq.quiet (i := 0) rfl (Want.none rfl) rfl (ltN rfl) (QP.move rfl rfl).read ?_
       refine Sq.quiet (i := 1) rfl (Want.none rfl) rfl (ltN rfl) (QP.add64 rfl rfl rfl (by first | omega | (simp <;> omega)) (by first | omega | (simp <;> omega))).read ?_
       refine Sq.quiet (i := 2) rfl (Want.none rfl) rfl (ltN rfl) (QP.assign rfl rfl).read ?_
       refine Sq.nil ?_
       exact J.envJ (J.keep (.cons (by repeat constructor) (.cons (by repeat constructor) Takes.nil)) (hl11 (i + 1) ((t + x.gap)) (_) (.slice aE (ordL (s.done (t + x.gap) o x.ok).H).length cE) (⟨by omega, by omega, hst3, rfl⟩) (by omega))) ⟨rfl, rfl, rfl, rfl, rfl, trivial⟩
      ·skip
       refine Sq.nil ?_
       refine hk34 _ _ ?_
       refine Run.cond_f rfl ?_
       refine Run.skip ?_
       refine hk33 _ _ ?_
       refine Run.seq fun k37 hk37 => ?_
       refine Run.region ?_
       show Sq _ _ _ [0, 1, 2, 3, 4] _ _ _ _
       have hst3 : FSt (s.done (t + x.gap) o x.ok) (i + 1) (t + x.gap) := (hst.later (Nat.le_refl i) (show t ≤ (t + x.gap) by omega)).done o x.ok
       have hok3 := hst3.ok (by omega)
       have hq3 : (ordL (s.done (t + x.gap) o x.ok).H).length ≤ 1000000 := by rw [hok3.h.ordL.length]; exact Nat.le_trans hst3.hl (by omega)
       refine J.slEq (v := .slice ah (ordL s.H).length ch) (by repeat constructor) (show ordL s.H = ordL (s.done (t + x.gap) o x.ok).H by rw [show (s.done (t + x.gap) o x.ok).H = s.H by show replyH s.H o x.ok = s.H; rw [show x.ok = false by simpa using c143]; rfl]) ?_
       refine Sq.slCase (v := .slice ah (ordL s.H).length ch) (xs := ordL (s.done (t + x.gap) o x.ok).H) (by repeat constructor) (fun aE cE hvE hhE => ?_)
       rw [hvE]
       refine Sq.quiet (i := 0) rfl (Want.none rfl) rfl (ltN rfl) (QP.move rfl rfl).read ?_
       refine Sq.eff (i := 1) rfl (Want.none rfl) rfl (ltN rfl) (EF.call rfl ce27 rfl (.cons (by repeat constructor) Takes.nil) (fun F' hle hr => hasA F' hok3)) ?_
       rintro v162 _ ⟨_, rfl, rfl⟩
       refine J.app ?_
       refine Sq.slCase (v := v162) (xs := ordL (s.done (t + x.gap) o x.ok).H) (by repeat constructor) (fun a162 c162 hv162 hh162 => ?_)
       subst hv162
       refine Sq.quiet (i := 2) rfl (Want.none rfl) rfl (ltN rfl) (QP.move rfl rfl).read ?_
       refine Sq.eff (i := 3) rfl (Want.none rfl) rfl (ltN rfl) (EF.call rfl ce11 rfl (.cons (by repeat constructor) (.cons (by repeat constructor) Takes.nil)) (fun F' hle hr => sameE F' hh162 hhE (by omega) (by omega))) ?_
       rintro _ _ ⟨_, ⟨rfl, rfl⟩, rfl⟩
       refine J.app ?_
       refine J.boolT (decide_eq_true rfl) ?_
       refine Sq.quiet (i := 4) rfl (Want.none rfl) rfl (ltN rfl) (QP.not rfl rfl).read ?_
       refine Sq.nil ?_
       refine hk37 _ _ ?_
       refine Run.cond_f rfl ?_
       refine Run.skip ?_
       refine hk14 _ _ ?_
       refine Run.region ?_
       show Sq _ _ _ [0, 1, 2] _ _ _ _
       refine Sq.quiet (i := 0) rfl (Want.none rfl) rfl (ltN rfl) (QP.move rfl rfl).read ?_
       refine Sq.quiet (i := 1) rfl (Want.none rfl) rfl (ltN rfl) (QP.add64 rfl rfl rfl (by first | omega | (simp <;> omega)) (by first | omega | (simp <;> omega))).read ?_
       refine Sq.quiet (i := 2) rfl (Want.none rfl) rfl (ltN rfl) (QP.assign rfl rfl).read ?_
       refine Sq.nil ?_
       exact J.envJ (J.keep (.cons (by repeat constructor) (.cons (by repeat constructor) Takes.nil)) (hl11 (i + 1) ((t + x.gap)) (_) (.slice aE (ordL (s.done (t + x.gap) o x.ok).H).length cE) (⟨by omega, by omega, hst3, rfl⟩) (by omega))) ⟨rfl, rfl, rfl, rfl, rfl, trivial⟩
     ·skip
      refine Sq.quiet (i := 9) rfl (Want.yes rfl rfl rfl rfl) rfl (ltN rfl) (QP.move rfl rfl).read ?_
      refine Sq.skip (i := 10) rfl (Want.no rfl rfl rfl rfl) rfl (ltN rfl) ?_
      refine Sq.skip (i := 11) rfl (Want.no rfl rfl rfl rfl) rfl (ltN rfl) ?_
      refine Sq.skip (i := 12) rfl (Want.no rfl rfl rfl rfl) rfl (ltN rfl) ?_
      refine Sq.skip (i := 13) rfl (Want.undef rfl rfl rfl) rfl (ltN rfl) ?_
      refine Sq.skip (i := 14) rfl (Want.undef rfl rfl rfl) rfl (ltN rfl) ?_
      refine Sq.skip (i := 15) rfl (Want.no rfl rfl rfl rfl) rfl (ltN rfl) ?_
      refine Sq.quiet (i := 16) rfl (Want.yes rfl rfl rfl rfl) rfl (ltN rfl) (QP.pick_f rfl rfl rfl).read ?_
      refine Sq.quiet (i := 17) rfl (Want.none rfl) rfl (ltN rfl) (QP.pick_f rfl rfl rfl).read ?_
      refine Sq.quiet (i := 18) rfl (Want.none rfl) rfl (ltN rfl) (QP.move rfl rfl).read ?_
      refine Sq.quiet (i := 19) rfl (Want.yes rfl rfl rfl rfl) rfl (ltN rfl) (QP.fieldAddr rfl rfl f43_0).read ?_
      refine Sq.quiet (i := 20) rfl (Want.yes rfl rfl rfl rfl) rfl (ltN rfl) (QR.load1 rfl rfl g3 (Op.sub_kind _)) ?_
      refine Sq.quiet (i := 21) rfl (Want.yes rfl rfl rfl rfl) rfl (ltN rfl) (QP.eql rfl rfl rfl).read ?_
      refine J.caseD (fun c99 => ?_) (fun c99 => ?_)
      ·skip
       refine Sq.quiet (i := 22) rfl (Want.yes rfl rfl rfl rfl) rfl (ltN rfl) (QP.move rfl rfl).read ?_
       refine Sq.quiet (i := 23) rfl (Want.yes rfl rfl rfl rfl) rfl (ltN rfl) (QP.move rfl rfl).read ?_
       refine Sq.quiet (i := 24) rfl (Want.yes rfl rfl rfl rfl) rfl (ltN rfl) (QP.lss rfl rfl rfl).read ?_
       refine J.decF (by have := hk2 c99; omega) ?_
       refine Sq.quiet (i := 25) rfl (Want.yes rfl rfl rfl rfl) rfl (ltN rfl) (QP.move rfl rfl).read ?_
       refine Sq.quiet (i := 26) rfl (Want.yes rfl rfl rfl rfl) rfl (ltN rfl) (QP.move rfl rfl).read ?_
       refine Sq.quiet (i := 27) rfl (Want.yes rfl rfl rfl rfl) rfl (ltN rfl) (QP.lss rfl rfl rfl).read ?_
       refine J.decF (by have := hk2 c99; omega) ?_
       refine Sq.quiet (i := 28) rfl (Want.yes rfl rfl rfl rfl) rfl (ltN rfl) (QP.pick_f rfl rfl rfl).read ?_
       refine Sq.quiet (i := 29) rfl (Want.yes rfl rfl rfl rfl) rfl (ltN rfl) (QP.pick_t rfl rfl rfl).read ?_
       refine Sq.quiet (i := 30) rfl (Want.none rfl) rfl (ltN rfl) (QP.pick_f rfl rfl rfl).read ?_
       refine Sq.quiet (i := 31) rfl (Want.none rfl) rfl (ltN rfl) (QP.move rfl rfl).read ?_
       refine Sq.quiet (i := 32) rfl (Want.yes rfl rfl rfl rfl) rfl (ltN rfl) (QP.fieldAddr rfl rfl f43_0).read ?_
       refine Sq.quiet (i := 33) rfl (Want.yes rfl rfl rfl rfl) rfl (ltN rfl) (QR.load1 rfl rfl g3 (Op.sub_kind _)) ?_
       refine Sq.quiet (i := 34) rfl (Want.yes rfl rfl rfl rfl) rfl (ltN rfl) (QP.eql rfl rfl rfl).read ?_
       refine J.decF (by omega) ?_
       refine Sq.quiet (i := 35) rfl (Want.yes rfl rfl rfl rfl) rfl (ltN rfl) (QP.move rfl rfl).read ?_
       refine Sq.skip (i := 36) rfl (Want.no rfl rfl rfl rfl) rfl (ltN rfl) ?_
       refine Sq.skip (i := 37) rfl (Want.no rfl rfl rfl rfl) rfl (ltN rfl) ?_
       refine Sq.skip (i := 38) rfl (Want.no rfl rfl rfl rfl) rfl (ltN rfl) ?_
       refine Sq.skip (i := 39) rfl (Want.undef rfl rfl rfl) rfl (ltN rfl) ?_
       refine Sq.skip (i := 40) rfl (Want.undef rfl rfl rfl) rfl (ltN rfl) ?_
       refine Sq.skip (i := 41) rfl (Want.no rfl rfl rfl rfl) rfl (ltN rfl) ?_
       refine Sq.quiet (i := 42) rfl (Want.yes rfl rfl rfl rfl) rfl (ltN rfl) (QP.pick_f rfl rfl rfl).read ?_
       refine Sq.quiet (i := 43) rfl (Want.none rfl) rfl (ltN rfl) (QP.pick_f rfl rfl rfl).read ?_
       refine Sq.nil ?_
       refine hk30 _ _ ?_
       refine Run.cond_f rfl ?_
       refine Run.skip ?_
       refine hk29 _ _ ?_
       refine Run.seq fun k38 hk38 => ?_
       refine Run.seq fun k39 hk39 => ?_
       refine Run.region ?_
       show Sq _ _ _ [0, 1, 2, 3, 4, 5, 6, 7, 8, 9, 10, 11, 12, 13, 14, 15, 16] _ _ _ _
       refine Sq.quiet (i := 0) rfl (Want.none rfl) rfl (ltN rfl) (QP.move rfl rfl).read ?_
       refine Sq.quiet (i := 1) rfl (Want.none rfl) rfl (ltN rfl) (QP.move rfl rfl).read ?_
       refine Sq.quiet (i := 2) rfl (Want.none rfl) rfl (ltN rfl) (QP.move rfl rfl).read ?_
       refine Sq.quiet (i := 3) rfl (Want.none rfl) rfl (ltN rfl) (QP.move rfl rfl).read ?_
       refine Sq.quiet (i := 4) rfl (Want.none rfl) rfl (ltN rfl) (QP.indexAddr rfl rfl rfl Try.underlying28 z47 (by first | omega | (simp <;> omega)) (by first | omega | (simp <;> omega))).read ?_
       refine Sq.quiet (i := 5) rfl (Want.none rfl) rfl (ltN rfl) (QP.fieldAddr rfl rfl f47_3).read ?_
       refine Sq.quiet (i := 6) rfl (Want.none rfl) rfl (ltN rfl) (QR.loadSlF1 rfl rfl g4 Law19Act.enc_len (hs0 _) hi (Law19Act.sub_ok _)) ?_
       refine Sq.eff (i := 7) rfl (Want.none rfl) rfl (ltN rfl) (EF.call rfl ce21 rfl (.cons (by repeat constructor) Takes.nil) (fun F' hle hr => replyA_some F' s o _ (by omega) _)) ?_
       rintro _ _ ⟨_, ⟨rfl, rfl⟩, rfl⟩
       refine J.app ?_
       refine Sq.eff (i := 8) rfl (Want.none rfl) rfl (ltN rfl) (EF.call rfl ce20 rfl Takes.nil (fun F' hle hr => num_spec F' _)) ?_
       rintro _ _ ⟨_, ⟨rfl, rfl⟩, rfl⟩
       refine J.app ?_
       refine Sq.quiet (i := 9) rfl (Want.none rfl) rfl (ltN rfl) (QP.neq rfl rfl rfl).read ?_
       refine Sq.quiet (i := 10) rfl (Want.none rfl) rfl (ltN rfl) (QP.move rfl rfl).read ?_
       refine Sq.quiet (i := 11) rfl (Want.yes rfl rfl rfl rfl) rfl (ltN rfl) (QP.move rfl rfl).read ?_
       refine Sq.quiet (i := 12) rfl (Want.yes rfl rfl rfl rfl) rfl (ltN rfl) (QP.move rfl rfl).read ?_
       refine Sq.eff (i := 13) rfl (Want.yes rfl rfl rfl rfl) rfl (ltN rfl) (EF.call rfl ce21 rfl (.cons (by repeat constructor) Takes.nil) (fun F' hle hr => replyA_none F' s o (t + x.gap) _ (by omega) _ _)) ?_
       rintro _ _ ⟨_, ⟨rfl, rfl⟩, rfl⟩
       refine J.app ?_
       refine Sq.eff (i := 14) rfl (Want.yes rfl rfl rfl rfl) rfl (ltN rfl) (EF.call rfl ce20 rfl Takes.nil (fun F' hle hr => num_spec F' _)) ?_
       rintro _ _ ⟨_, ⟨rfl, rfl⟩, rfl⟩
       refine J.app ?_
       refine Sq.quiet (i := 15) rfl (Want.yes rfl rfl rfl rfl) rfl (ltN rfl) (QP.neq rfl rfl rfl).read ?_
       refine Sq.quiet (i := 16) rfl (Want.none rfl) rfl (ltN rfl) (QP.pick_f rfl rfl rfl).read ?_
       refine Sq.nil ?_
       refine hk39 _ _ ?_
       refine Run.cond_f rfl ?_
       refine Run.skip ?_
       refine hk38 _ _ ?_
       refine Run.seq fun k40 hk40 => ?_
       refine Run.seq fun k41 hk41 => ?_
       refine Run.region ?_
       show Sq _ _ _ [0, 1, 2, 3, 4] _ _ _ _
       refine Sq.quiet (i := 0) rfl (Want.none rfl) rfl (ltN rfl) (QP.move rfl rfl).read ?_
       refine Sq.quiet (i := 1) rfl (Want.none rfl) rfl (ltN rfl) (QP.move rfl rfl).read ?_
       refine Sq.quiet (i := 2) rfl (Want.none rfl) rfl (ltN rfl) (QP.indexAddr rfl rfl rfl Try.underlying28 z47 (by first | omega | (simp <;> omega)) (by first | omega | (simp <;> omega))).read ?_
       refine Sq.quiet (i := 3) rfl (Want.none rfl) rfl (ltN rfl) (QP.fieldAddr rfl rfl f47_3).read ?_
       refine Sq.quiet (i := 4) rfl (Want.none rfl) rfl (ltN rfl) (QR.loadSlF1 rfl rfl g4 Law19Act.enc_len (hs0 _) hi (Law19Act.sub_ok _)) ?_
       refine J.caseB (fun c143 => ?_) (fun c143 => ?_)
       ·skip
        refine Sq.nil ?_
        refine hk41 _ _ ?_
        refine Run.cond_t rfl ?_
        refine Run.seq fun k42 hk42 => ?_
        refine Run.region ?_
        show Sq _ _ _ [0, 1, 2] _ _ _ _
        refine Sq.quiet (i := 0) rfl (Want.none rfl) rfl (ltN rfl) (QP.fieldAddr rfl rfl f43_0).read ?_
        refine Sq.quiet (i := 1) rfl (Want.none rfl) rfl (ltN rfl) (QR.load1 rfl rfl g3 (Op.sub_kind _)) ?_
        refine Sq.quiet (i := 2) rfl (Want.none rfl) rfl (ltN rfl) (QP.eql rfl rfl rfl).read ?_
        refine J.decF (by omega) ?_
        refine Sq.nil ?_
        refine hk42 _ _ ?_
        refine Run.cond_f rfl ?_
        refine Run.region ?_
        show Sq _ _ _ [0, 1, 2, 3, 4] _ _ _ _
        refine Sq.quiet (i := 0) rfl (Want.none rfl) rfl (ltN rfl) (QP.move rfl rfl).read ?_
        refine Sq.quiet (i := 1) rfl (Want.none rfl) rfl (ltN rfl) (QP.fieldAddr rfl rfl f43_1).read ?_
        refine Sq.quiet (i := 2) rfl (Want.none rfl) rfl (ltN rfl) (QR.load rfl rfl g41 (Op.sub_entry _)) ?_
        refine Sq.eff (i := 3) rfl (Want.none rfl) rfl (ltN rfl) (EF.call rfl ce30 rfl (.cons (by repeat constructor) Takes.nil) (fun F' hle hr => put_spec F' hhh (by omega) (hok.h.ordL.sort) o.entry)) ?_
        rintro v160 _ ⟨_, ⟨L2, hput, rfl⟩, rfl⟩
        refine J.app ?_
        refine Sq.quiet (i := 4) rfl (Want.none rfl) rfl (ltN rfl) (QP.assign rfl rfl).read ?_
        refine Sq.nil ?_
        refine hk40 _ _ ?_
        refine Run.seq fun k43 hk43 => ?_
        refine Run.region ?_
        show Sq _ _ _ [0, 1, 2, 3, 4] _ _ _ _
        have hst3 : FSt (s.done (t + x.gap) o x.ok) (i + 1) (t + x.gap) := (hst.later (Nat.le_refl i) (show t ≤ (t + x.gap) by omega)).done o x.ok
        have hok3 := hst3.ok (by omega)
        have hq3 : (ordL (s.done (t + x.gap) o x.ok).H).length ≤ 1000000 := by rw [hok3.h.ordL.length]; exact Nat.le_trans hst3.hl (by omega)
        refine J.slEq (v := v160) (by repeat constructor) (show _ = ordL (s.done (t + x.gap) o x.ok).H by show _ = ordL (replyH s.H o x.ok); rw [c143]; exact put_list hok (by omega) hput) ?_
        refine Sq.slCase (v := v160) (xs := ordL (s.done (t + x.gap) o x.ok).H) (by repeat constructor) (fun aE cE hvE hhE => ?_)
        rw [hvE]
        refine Sq.quiet (i := 0) rfl (Want.none rfl) rfl (ltN rfl) (QP.move rfl rfl).read ?_
        refine Sq.eff (i := 1) rfl (Want.none rfl) rfl (ltN rfl) (EF.call rfl ce27 rfl (.cons (by repeat constructor) Takes.nil) (fun F' hle hr => hasA F' hok3)) ?_
        rintro v162 _ ⟨_, rfl, rfl⟩
        refine J.app ?_
        refine Sq.slCase (v := v162) (xs := ordL (s.done (t + x.gap) o x.ok).H) (by repeat constructor) (fun a162 c162 hv162 hh162 => ?_)
        subst hv162
        refine Sq.quiet (i := 2) rfl (Want.none rfl) rfl (ltN rfl) (QP.move rfl rfl).read ?_
        refine Sq.eff (i := 3) rfl (Want.none rfl) rfl (ltN rfl) (EF.call rfl ce11 rfl (.cons (by repeat constructor) (.cons (by repeat constructor) Takes.nil)) (fun F' hle hr => sameE F' hh162 hhE (by omega) (by omega))) ?_
        rintro _ _ ⟨_, ⟨rfl, rfl⟩, rfl⟩
        refine J.app ?_
        refine J.boolT (decide_eq_true rfl) ?_
        refine Sq.quiet (i := 4) rfl (Want.none rfl) rfl (ltN rfl) (QP.not rfl rfl).read ?_
        refine Sq.nil ?_
        refine hk43 _ _ ?_
        refine Run.cond_f rfl ?_
        refine Run.skip ?_
        refine hk14 _ _ ?_
        refine Run.region ?_
        show Sq _ _ _ [0, 1, 2] _ _ _ _
        refine Sq.quiet (i := 0) rfl (Want.none rfl) rfl (ltN rfl) (QP.move rfl rfl).read ?_
        refine Sq.quiet (i := 1) rfl (Want.none rfl) rfl (ltN rfl) (QP.add64 rfl rfl rfl (by first | omega | (simp <;> omega)) (by first | omega | (simp <;> omega))).read ?_
        refine Sq.quiet (i := 2) rfl (Want.none rfl) rfl (ltN rfl) (QP.assign rfl rfl).read ?_
        refine Sq.nil ?_
        exact J.envJ (J.keep (.cons (by repeat constructor) (.cons (by repeat constructor) Takes.nil)) (hl11 (i + 1) ((t + x.gap)) (_) (.slice aE (ordL (s.done (t + x.gap) o x.ok).H).length cE) (⟨by omega, by omega, hst3, rfl⟩) (by omega))) ⟨rfl, rfl, rfl, rfl, rfl, trivial⟩
       ·skip
        refine Sq.nil ?_
        refine hk41 _ _ ?_
        refine Run.cond_f rfl ?_
        refine Run.skip ?_
        refine hk40 _ _ ?_
        refine Run.seq fun k44 hk44 => ?_
        refine Run.region ?_
        show Sq _ _ _ [0, 1, 2, 3, 4] _ _ _ _
        have hst3 : FSt (s.done (t + x.gap) o x.ok) (i + 1) (t + x.gap) := (hst.later (Nat.le_refl i) (show t ≤ (t + x.gap) by omega)).done o x.ok
        have hok3 := hst3.ok (by omega)
        have hq3 : (ordL (s.done (t + x.gap) o x.ok).H).length ≤ 1000000 := by rw [hok3.h.ordL.length]; exact Nat.le_trans hst3.hl (by omega)
        refine J.slEq (v := .slice ah (ordL s.H).length ch) (by repeat constructor) (show ordL s.H = ordL (s.done (t + x.gap) o x.ok).H by rw [show (s.done (t + x.gap) o x.ok).H = s.H by show replyH s.H o x.ok = s.H; rw [show x.ok = false by simpa using c143]; rfl]) ?_
        refine Sq.slCase (v := .slice ah (ordL s.H).length ch) (xs := ordL (s.done (t + x.gap) o x.ok).H) (by repeat constructor) (fun aE cE hvE hhE => ?_)
        rw [hvE]
        refine Sq.quiet (i := 0) rfl (Want.none rfl) rfl (ltN rfl) (QP.move rfl rfl).read ?_
        refine Sq.eff (i := 1) rfl (Want.none rfl) rfl (ltN rfl) (EF.call rfl ce27 rfl (.cons (by repeat constructor) Takes.nil) (fun F' hle hr => hasA F' hok3)) ?_
        rintro v162 _ ⟨_, rfl, rfl⟩
        refine J.app ?_
        refine Sq.slCase (v := v162) (xs := ordL (s.done (t + x.gap) o x.ok).H) (by repeat constructor) (fun a162 c162 hv162 hh162 => ?_)
        subst hv162
        refine Sq.quiet (i := 2) rfl (Want.none rfl) rfl (ltN rfl) (QP.move rfl rfl).read ?_
        refine Sq.eff (i := 3) rfl (Want.none rfl) rfl (ltN rfl) (EF.call rfl ce11 rfl (.cons (by repeat constructor) (.cons (by repeat constructor) Takes.nil)) (fun F' hle hr => sameE F' hh162 hhE (by omega) (by omega))) ?_
        rintro _ _ ⟨_, ⟨rfl, rfl⟩, rfl⟩
        refine J.app ?_
        refine J.boolT (decide_eq_true rfl) ?_
        refine Sq.quiet (i := 4) rfl (Want.none rfl) rfl (ltN rfl) (QP.not rfl rfl).read ?_
        refine Sq.nil ?_
        refine hk44 _ _ ?_
        refine Run.cond_f rfl ?_
        refine Run.skip ?_
        refine hk14 _ _ ?_
        refine Run.region ?_
        show Sq _ _ _ [0, 1, 2] _ _ _ _
        refine Sq.quiet (i := 0) rfl (Want.none rfl) rfl (ltN rfl) (QP.move rfl rfl).read ?_
        refine Sq.quiet (i := 1) rfl (Want.none rfl) rfl (ltN rfl) (QP.add64 rfl rfl rfl (by first | omega | (simp <;> omega)) (by first | omega | (simp <;> omega))).read ?_
        refine Sq.quiet (i := 2) rfl (Want.none rfl) rfl (ltN rfl) (QP.assign rfl rfl).read ?_
        refine Sq.nil ?_
        exact J.envJ (J.keep (.cons (by repeat constructor) (.cons (by repeat constructor) Takes.nil)) (hl11 (i + 1) ((t + x.gap)) (_) (.slice aE (ordL (s.done (t + x.gap) o x.ok).H).length cE) (⟨by omega, by omega, hst3, rfl⟩) (by omega))) ⟨rfl, rfl, rfl, rfl, rfl, trivial⟩
      ·skip
       refine Sq.quiet (i := 22) rfl (Want.yes rfl rfl rfl rfl) rfl (ltN rfl) (QP.move rfl rfl).read ?_
       refine Sq.skip (i := 23) rfl (Want.no rfl rfl rfl rfl) rfl (ltN rfl) ?_
       refine Sq.skip (i := 24) rfl (Want.no rfl rfl rfl rfl) rfl (ltN rfl) ?_
       refine Sq.skip (i := 25) rfl (Want.no rfl rfl rfl rfl) rfl (ltN rfl) ?_
       refine Sq.skip (i := 26) rfl (Want.undef rfl rfl rfl) rfl (ltN rfl) ?_
       refine Sq.skip (i := 27) rfl (Want.undef rfl rfl rfl) rfl (ltN rfl) ?_
       refine Sq.skip (i := 28) rfl (Want.no rfl rfl rfl rfl) rfl (ltN rfl) ?_
       refine Sq.quiet (i := 29) rfl (Want.yes rfl rfl rfl rfl) rfl (ltN rfl) (QP.pick_f rfl rfl rfl).read ?_
       refine Sq.quiet (i := 30) rfl (Want.none rfl) rfl (ltN rfl) (QP.pick_f rfl rfl rfl).read ?_
       refine Sq.quiet (i := 31) rfl (Want.none rfl) rfl (ltN rfl) (QP.move rfl rfl).read ?_
       refine Sq.quiet (i := 32) rfl (Want.yes rfl rfl rfl rfl) rfl (ltN rfl) (QP.fieldAddr rfl rfl f43_0).read ?_
       refine Sq.quiet (i := 33) rfl (Want.yes rfl rfl rfl rfl) rfl (ltN rfl) (QR.load1 rfl rfl g3 (Op.sub_kind _)) ?_
       refine Sq.quiet (i := 34) rfl (Want.yes rfl rfl rfl rfl) rfl (ltN rfl) (QP.eql rfl rfl rfl).read ?_
       refine J.decT (by omega) ?_
       refine Sq.quiet (i := 35) rfl (Want.yes rfl rfl rfl rfl) rfl (ltN rfl) (QP.move rfl rfl).read ?_
       refine Sq.quiet (i := 36) rfl (Want.yes rfl rfl rfl rfl) rfl (ltN rfl) (QP.move rfl rfl).read ?_
       refine Sq.quiet (i := 37) rfl (Want.yes rfl rfl rfl rfl) rfl (ltN rfl) (QP.lss rfl rfl rfl).read ?_
       refine J.decF (by have := hk3 (by omega); omega) ?_
       refine Sq.quiet (i := 38) rfl (Want.yes rfl rfl rfl rfl) rfl (ltN rfl) (QP.move rfl rfl).read ?_
       refine Sq.quiet (i := 39) rfl (Want.yes rfl rfl rfl rfl) rfl (ltN rfl) (QP.move rfl rfl).read ?_
       refine Sq.quiet (i := 40) rfl (Want.yes rfl rfl rfl rfl) rfl (ltN rfl) (QP.geq rfl rfl rfl).read ?_
       refine J.decF (by have := hk3 (by omega); omega) ?_
       refine Sq.quiet (i := 41) rfl (Want.yes rfl rfl rfl rfl) rfl (ltN rfl) (QP.pick_f rfl rfl rfl).read ?_
       refine Sq.quiet (i := 42) rfl (Want.yes rfl rfl rfl rfl) rfl (ltN rfl) (QP.pick_t rfl rfl rfl).read ?_
       refine Sq.quiet (i := 43) rfl (Want.none rfl) rfl (ltN rfl) (QP.pick_f rfl rfl rfl).read ?_
       refine Sq.nil ?_
       refine hk30 _ _ ?_
       refine Run.cond_f rfl ?_
       refine Run.skip ?_
       refine hk29 _ _ ?_
       refine Run.seq fun k45 hk45 => ?_
       refine Run.seq fun k46 hk46 => ?_
       refine Run.region ?_
       show Sq _ _ _ [0, 1, 2, 3, 4, 5, 6, 7, 8, 9, 10, 11, 12, 13, 14, 15, 16] _ _ _ _
       refine Sq.quiet (i := 0) rfl (Want.none rfl) rfl (ltN rfl) (QP.move rfl rfl).read ?_
       refine Sq.quiet (i := 1) rfl (Want.none rfl) rfl (ltN rfl) (QP.move rfl rfl).read ?_
       refine Sq.quiet (i := 2) rfl (Want.none rfl) rfl (ltN rfl) (QP.move rfl rfl).read ?_
       refine Sq.quiet (i := 3) rfl (Want.none rfl) rfl (ltN rfl) (QP.move rfl rfl).read ?_
       refine Sq.quiet (i := 4) rfl (Want.none rfl) rfl (ltN rfl) (QP.indexAddr rfl rfl rfl Try.underlying28 z47 (by first | omega | (simp <;> omega)) (by first | omega | (simp <;> omega))).read ?_
       refine Sq.quiet (i := 5) rfl (Want.none rfl) rfl (ltN rfl) (QP.fieldAddr rfl rfl f47_3).read ?_
       refine Sq.quiet (i := 6) rfl (Want.none rfl) rfl (ltN rfl) (QR.loadSlF1 rfl rfl g4 Law19Act.enc_len (hs0 _) hi (Law19Act.sub_ok _)) ?_
       refine Sq.eff (i := 7) rfl (Want.none rfl) rfl (ltN rfl) (EF.call rfl ce21 rfl (.cons (by repeat constructor) Takes.nil) (fun F' hle hr => replyA_some F' s o _ (by omega) _)) ?_
       rintro _ _ ⟨_, ⟨rfl, rfl⟩, rfl⟩
       refine J.app ?_
       refine Sq.eff (i := 8) rfl (Want.none rfl) rfl (ltN rfl) (EF.call rfl ce20 rfl Takes.nil (fun F' hle hr => num_spec F' _)) ?_
       rintro _ _ ⟨_, ⟨rfl, rfl⟩, rfl⟩
       refine J.app ?_
       refine Sq.quiet (i := 9) rfl (Want.none rfl) rfl (ltN rfl) (QP.neq rfl rfl rfl).read ?_
       refine Sq.quiet (i := 10) rfl (Want.none rfl) rfl (ltN rfl) (QP.move rfl rfl).read ?_
       refine Sq.quiet (i := 11) rfl (Want.yes rfl rfl rfl rfl) rfl (ltN rfl) (QP.move rfl rfl).read ?_
       refine Sq.quiet (i := 12) rfl (Want.yes rfl rfl rfl rfl) rfl (ltN rfl) (QP.move rfl rfl).read ?_
       refine Sq.eff (i := 13) rfl (Want.yes rfl rfl rfl rfl) rfl (ltN rfl) (EF.call rfl ce21 rfl (.cons (by repeat constructor) Takes.nil) (fun F' hle hr => replyA_none F' s o (t + x.gap) _ (by omega) _ _)) ?_
       rintro _ _ ⟨_, ⟨rfl, rfl⟩, rfl⟩
       refine J.app ?_
       refine Sq.eff (i := 14) rfl (Want.yes rfl rfl rfl rfl) rfl (ltN rfl) (EF.call rfl ce20 rfl Takes.nil (fun F' hle hr => num_spec F' _)) ?_
       rintro _ _ ⟨_, ⟨rfl, rfl⟩, rfl⟩
       refine J.app ?_
       refine Sq.quiet (i := 15) rfl (Want.yes rfl rfl rfl rfl) rfl (ltN rfl) (QP.neq rfl rfl rfl).read ?_
       refine Sq.quiet (i := 16) rfl (Want.none rfl) rfl (ltN rfl) (QP.pick_f rfl rfl rfl).read ?_
       refine Sq.nil ?_
       refine hk46 _ _ ?_
       refine Run.cond_f rfl ?_
       refine Run.skip ?_
       refine hk45 _ _ ?_
       refine Run.seq fun k47 hk47 => ?_
       refine Run.seq fun k48 hk48 => ?_
       refine Run.region ?_
       show Sq _ _ _ [0, 1, 2, 3, 4] _ _ _ _
       refine Sq.quiet (i := 0) rfl (Want.none rfl) rfl (ltN rfl) (QP.move rfl rfl).read ?_
       refine Sq.quiet (i := 1) rfl (Want.none rfl) rfl (ltN rfl) (QP.move rfl rfl).read ?_
       refine Sq.quiet (i := 2) rfl (Want.none rfl) rfl (ltN rfl) (QP.indexAddr rfl rfl rfl Try.underlying28 z47 (by first | omega | (simp <;> omega)) (by first | omega | (simp <;> omega))).read ?_
       refine Sq.quiet (i := 3) rfl (Want.none rfl) rfl (ltN rfl) (QP.fieldAddr rfl rfl f47_3).read ?_
       refine Sq.quiet (i := 4) rfl (Want.none rfl) rfl (ltN rfl) (QR.loadSlF1 rfl rfl g4 Law19Act.enc_len (hs0 _) hi (Law19Act.sub_ok _)) ?_
       refine J.caseB (fun c143 => ?_) (fun c143 => ?_)
       ·skip
        refine Sq.nil ?_
        refine hk48 _ _ ?_
        refine Run.cond_t rfl ?_
        refine Run.seq fun k49 hk49 => ?_
        refine Run.region ?_
        show Sq _ _ _ [0, 1, 2] _ _ _ _
        refine Sq.quiet (i := 0) rfl (Want.none rfl) rfl (ltN rfl) (QP.fieldAddr rfl rfl f43_0).read ?_
        refine Sq.quiet (i := 1) rfl (Want.none rfl) rfl (ltN rfl) (QR.load1 rfl rfl g3 (Op.sub_kind _)) ?_
        have hk3e : o.kind = 3 := by omega
        obtain ⟨ix, y, rfl, hiy, hpy⟩ : ∃ (ix : Nat) (y : Entry), n71 = (ix : Int) ∧ (ordL s.H)[ix]? = some y ∧ y.pair = o.entry.pair := by
          rcases hf71 with ⟨h1, _⟩ | ⟨i, x, h1, h2, h3⟩
          · have := hk3 (by omega); omega
          · exact ⟨i, x, h1, h2, h3⟩
        have hixl : ix < (ordL s.H).length := (List.getElem?_eq_some_iff.1 hiy).1
        refine Sq.quiet (i := 2) rfl (Want.none rfl) rfl (ltN rfl) (QP.eql rfl rfl rfl).read ?_
        refine J.decT (hk3e) ?_
        refine Sq.nil ?_
        refine hk49 _ _ ?_
        refine Run.cond_t rfl ?_
        refine Run.regionD (M := [0, 0, 0, 6, 15, 0, 0, 64, 224, 511, 1023]) (q := 494) (r := 0) (by kernel_rfl) ?_
        refine Dw.pure (i := 1) rfl (by kernel_rfl) (Want.none rfl) rfl (ltN rfl) (QP.move rfl rfl) ?_
        refine Dw.pure (i := 2) rfl (by kernel_rfl) (Want.none rfl) rfl (ltN rfl) (QP.move rfl rfl) ?_
        refine Dw.pure (i := 3) rfl (by kernel_rfl) (Want.none rfl) rfl (ltN rfl) (QP.sliceHi rfl rfl rfl Try.underlying22 z41 (by first | omega | (simp <;> omega)) (by first | omega | (simp <;> omega))) ?_
        refine Dw.pure (i := 5) rfl (by kernel_rfl) (Want.none rfl) rfl (ltN rfl) (QP.move rfl rfl) ?_
        refine Dw.pure (i := 6) rfl (by kernel_rfl) (Want.none rfl) rfl (ltN rfl) (QP.move rfl rfl) ?_
        refine Dw.pure (i := 7) rfl (by kernel_rfl) (Want.none rfl) rfl (ltN rfl) (QP.add64 rfl rfl rfl (by first | omega | (simp <;> omega)) (by first | omega | (simp <;> omega))) ?_
        refine Dw.pure (i := 8) rfl (by kernel_rfl) (Want.none rfl) rfl (ltN rfl) (QP.sliceLo rfl rfl rfl Try.underlying22 z41 (by first | omega | (simp <;> omega)) (by first | omega | (simp <;> omega))) ?_
        refine Dw.eff (i := 0) (by kernel_rfl) (by kernel_rfl) ?_
        refine One.mk (o := _) (l := []) rfl (by kernel_rfl) (Want.none rfl) rfl (ltN rfl) (EF.buildSlice0 (enc := Entry.enc) rfl Try.underlying22 z41 zero41 (by simp [Value.cells, Entry.enc_len]) (by decide)) (by kernel_rfl) ?_
        rintro _ _ ⟨b147, rfl, rfl⟩
        refine ⟨fun _ h => (by cases h), ?_⟩
        refine Dw.eff (i := 4) (by kernel_rfl) (by kernel_rfl) ?_
        refine One.mk (o := _) (l := []) rfl (by kernel_rfl) (Want.none rfl) rfl (ltN rfl) (EF.append (xs := []) (ys := ((ordL s.H).take ix).drop 0) el41 Entry.enc_len Entry.enc_cell rfl rfl rfl Try.underlying22 Try.underlying22 rfl rfl (by repeat constructor) (RowsAt.cutOwn (i := 0) (j := ix) Entry.enc_len hhh (by repeat constructor) (by omega) (by omega)) (by first | omega | (simp <;> omega))) (by kernel_rfl) ?_
        rintro sl151 _ rfl
        refine ⟨fun _ h => (by cases h), ?_⟩
        refine Dw.slCase (v := sl151) (by repeat constructor) (fun a151 c151 hv151 hh151 => ?_)
        subst hv151
        refine Dw.eff (i := 9) (by kernel_rfl) (by kernel_rfl) ?_
        refine One.mk (o := _) (l := []) rfl (by kernel_rfl) (Want.none rfl) rfl (ltN rfl) (EF.append (xs := _) (ys := ((ordL s.H).take (ordL s.H).length).drop (ix + 1)) el41 Entry.enc_len Entry.enc_cell rfl rfl rfl Try.underlying22 Try.underlying22 rfl rfl (by repeat constructor) (RowsAt.cutOwn (i := ix + 1) (j := (ordL s.H).length) Entry.enc_len hhh (by repeat constructor) (by omega) (by omega)) (by first | omega | (simp <;> omega))) (by kernel_rfl) ?_
        rintro sl156 _ rfl
        refine ⟨fun _ h => (by cases h), ?_⟩
        refine Dw.slCase (v := sl156) (by repeat constructor) (fun a156 c156 hv156 hh156 => ?_)
        subst hv156
        refine Dw.eff (i := 10) (by kernel_rfl) (by kernel_rfl) ?_
        refine One.mk (o := _) (l := []) rfl (by kernel_rfl) (Want.none rfl) rfl (ltN rfl) ((QP.assign rfl rfl).eff) (by kernel_rfl) ?_
        rintro sl156 _ ⟨rfl, rfl⟩
        refine ⟨fun _ h => (by cases h), ?_⟩
        refine Dw.nil (by kernel_rfl) ?_
        refine hk47 _ _ ?_
        refine Run.seq fun k50 hk50 => ?_
        refine Run.region ?_
        show Sq _ _ _ [0, 1, 2, 3, 4] _ _ _ _
        have hst3 : FSt (s.done (t + x.gap) o x.ok) (i + 1) (t + x.gap) := (hst.later (Nat.le_refl i) (show t ≤ (t + x.gap) by omega)).done o x.ok
        have hok3 := hst3.ok (by omega)
        have hq3 : (ordL (s.done (t + x.gap) o x.ok).H).length ≤ 1000000 := by rw [hok3.h.ordL.length]; exact Nat.le_trans hst3.hl (by omega)
        refine J.slEq (v := .slice a156 _ c156) (by repeat constructor) (show _ = ordL (s.done (t + x.gap) o x.ok).H by show _ = ordL (replyH s.H o x.ok); rw [c143]; exact del_list hok (by omega) hiy hpy) ?_
        refine Sq.slCase (v := .slice a156 _ c156) (xs := ordL (s.done (t + x.gap) o x.ok).H) (by repeat constructor) (fun aE cE hvE hhE => ?_)
        rw [hvE]
        refine Sq.quiet (i := 0) rfl (Want.none rfl) rfl (ltN rfl) (QP.move rfl rfl).read ?_
        refine Sq.eff (i := 1) rfl (Want.none rfl) rfl (ltN rfl) (EF.call rfl ce27 rfl (.cons (by repeat constructor) Takes.nil) (fun F' hle hr => hasA F' hok3)) ?_
        rintro v162 _ ⟨_, rfl, rfl⟩
        refine J.app ?_
        refine Sq.slCase (v := v162) (xs := ordL (s.done (t + x.gap) o x.ok).H) (by repeat constructor) (fun a162 c162 hv162 hh162 => ?_)
        subst hv162
        refine Sq.quiet (i := 2) rfl (Want.none rfl) rfl (ltN rfl) (QP.move rfl rfl).read ?_
        refine Sq.eff (i := 3) rfl (Want.none rfl) rfl (ltN rfl) (EF.call rfl ce11 rfl (.cons (by repeat constructor) (.cons (by repeat constructor) Takes.nil)) (fun F' hle hr => sameE F' hh162 hhE (by omega) (by omega))) ?_
        rintro _ _ ⟨_, ⟨rfl, rfl⟩, rfl⟩
        refine J.app ?_
        refine J.boolT (decide_eq_true rfl) ?_
        refine Sq.quiet (i := 4) rfl (Want.none rfl) rfl (ltN rfl) (QP.not rfl rfl).read ?_
        refine Sq.nil ?_
        refine hk50 _ _ ?_
        refine Run.cond_f rfl ?_
        refine Run.skip ?_
        refine hk14 _ _ ?_
        refine Run.region ?_
        show Sq _ _ _ [0, 1, 2] _ _ _ _
        refine Sq.quiet (i := 0) rfl (Want.none rfl) rfl (ltN rfl) (QP.move rfl rfl).read ?_
        refine Sq.quiet (i := 1) rfl (Want.none rfl) rfl (ltN rfl) (QP.add64 rfl rfl rfl (by first | omega | (simp <;> omega)) (by first | omega | (simp <;> omega))).read ?_
        refine Sq.quiet (i := 2) rfl (Want.none rfl) rfl (ltN rfl) (QP.assign rfl rfl).read ?_
        refine Sq.nil ?_
        exact J.envJ (J.keep (.cons (by repeat constructor) (.cons (by repeat constructor) Takes.nil)) (hl11 (i + 1) ((t + x.gap)) (_) (.slice aE (ordL (s.done (t + x.gap) o x.ok).H).length cE) (⟨by omega, by omega, hst3, rfl⟩) (by omega))) ⟨rfl, rfl, rfl, rfl, rfl, trivial⟩
       ·skip
        refine Sq.nil ?_
        refine hk48 _ _ ?_
        refine Run.cond_f rfl ?_
        refine Run.skip ?_
        refine hk47 _ _ ?_
        refine Run.seq fun k51 hk51 => ?_
        refine Run.region ?_
        show Sq _ _ _ [0, 1, 2, 3, 4] _ _ _ _
        have hst3 : FSt (s.done (t + x.gap) o x.ok) (i + 1) (t + x.gap) := (hst.later (Nat.le_refl i) (show t ≤ (t + x.gap) by omega)).done o x.ok
        have hok3 := hst3.ok (by omega)
        have hq3 : (ordL (s.done (t + x.gap) o x.ok).H).length ≤ 1000000 := by rw [hok3.h.ordL.length]; exact Nat.le_trans hst3.hl (by omega)
        refine J.slEq (v := .slice ah (ordL s.H).length ch) (by repeat constructor) (show ordL s.H = ordL (s.done (t + x.gap) o x.ok).H by rw [show (s.done (t + x.gap) o x.ok).H = s.H by show replyH s.H o x.ok = s.H; rw [show x.ok = false by simpa using c143]; rfl]) ?_
        refine Sq.slCase (v := .slice ah (ordL s.H).length ch) (xs := ordL (s.done (t + x.gap) o x.ok).H) (by repeat constructor) (fun aE cE hvE hhE => ?_)
        rw [hvE]
        refine Sq.quiet (i := 0) rfl (Want.none rfl) rfl (ltN rfl) (QP.move rfl rfl).read ?_
        refine Sq.eff (i := 1) rfl (Want.none rfl) rfl (ltN rfl) (EF.call rfl ce27 rfl (.cons (by repeat constructor) Takes.nil) (fun F' hle hr => hasA F' hok3)) ?_
        rintro v162 _ ⟨_, rfl, rfl⟩
        refine J.app ?_
        refine Sq.slCase (v := v162) (xs := ordL (s.done (t + x.gap) o x.ok).H) (by repeat constructor) (fun a162 c162 hv162 hh162 => ?_)
        subst hv162
        refine Sq.quiet (i := 2) rfl (Want.none rfl) rfl (ltN rfl) (QP.move rfl rfl).read ?_
        refine Sq.eff (i := 3) rfl (Want.none rfl) rfl (ltN rfl) (EF.call rfl ce11 rfl (.cons (by repeat constructor) (.cons (by repeat constructor) Takes.nil)) (fun F' hle hr => sameE F' hh162 hhE (by omega) (by omega))) ?_
        rintro _ _ ⟨_, ⟨rfl, rfl⟩, rfl⟩
        refine J.app ?_
        refine J.boolT (decide_eq_true rfl) ?_
        refine Sq.quiet (i := 4) rfl (Want.none rfl) rfl (ltN rfl) (QP.not rfl rfl).read ?_
        refine Sq.nil ?_
        refine hk51 _ _ ?_
        refine Run.cond_f rfl ?_
        refine Run.skip ?_
        refine hk14 _ _ ?_
        refine Run.region ?_
        show Sq _ _ _ [0, 1, 2] _ _ _ _
        refine Sq.quiet (i := 0) rfl (Want.none rfl) rfl (ltN rfl) (QP.move rfl rfl).read ?_
        refine Sq.quiet (i := 1) rfl (Want.none rfl) rfl (ltN rfl) (QP.add64 rfl rfl rfl (by first | omega | (simp <;> omega)) (by first | omega | (simp <;> omega))).read ?_
        refine Sq.quiet (i := 2) rfl (Want.none rfl) rfl (ltN rfl) (QP.assign rfl rfl).read ?_
        refine Sq.nil ?_
        exact J.envJ (J.keep (.cons (by repeat constructor) (.cons (by repeat constructor) Takes.nil)) (hl11 (i + 1) ((t + x.gap)) (_) (.slice aE (ordL (s.done (t + x.gap) o x.ok).H).length cE) (⟨by omega, by omega, hst3, rfl⟩) (by omega))) ⟨rfl, rfl, rfl, rfl, rfl, trivial⟩
  ·skip
   refine Sq.nil ?_
   refine hk13 _ _ ?_
   refine Run.cond_f rfl ?_
   refine Run.exit rfl ?_
   refine hk9 _ _ ?_
   refine Run.seq fun k52 hk52 => ?_
   refine Run.region ?_
   show Sq _ _ _ [0, 1] _ _ _ _
   refine Sq.eff (i := 0) rfl (Want.none rfl) rfl (ltN rfl) (EF.call rfl ce10 rfl Takes.nil (fun F' hle hr => live_spec F')) ?_
   rintro _ _ ⟨_, ⟨rfl, rfl⟩, rfl⟩
   refine J.app ?_
   refine Sq.quiet (i := 1) rfl (Want.none rfl) rfl (ltN rfl) (QP.assign rfl rfl).read ?_
   refine Sq.nil ?_
   refine hk52 _ _ ?_
   refine Run.ret ?_
   exact J.ends (res_tmp rfl rfl) Takes.nil ⟨rfl, rfl⟩
 ·skip
  refine Sq.quiet (i := 2) rfl (Want.none rfl) rfl (ltN rfl) (QP.not rfl rfl).read ?_
  refine Sq.nil ?_
  refine hk3 _ _ ?_
  refine Run.cond_t rfl ?_
  refine Run.seq fun k53 hk53 => ?_
  refine Run.region ?_
  show Sq _ _ _ [0, 1] _ _ _ _
  refine Sq.eff (i := 0) rfl (Want.none rfl) rfl (ltN rfl) (EF.call rfl ce10 rfl Takes.nil (fun F' hle hr => live_spec F')) ?_
  rintro _ _ ⟨_, ⟨rfl, rfl⟩, rfl⟩
  refine J.app ?_
  refine Sq.quiet (i := 1) rfl (Want.none rfl) rfl (ltN rfl) (QP.assign rfl rfl).read ?_
  refine Sq.nil ?_
  refine hk53 _ _ ?_
  refine Run.ret ?_
  exact J.ends (res_tmp rfl rfl) Takes.nil ⟨rfl, rfl⟩
end Slb
