/- X15: a part of the proof that a law of this package holds for every input; no condition. -/
import Derived.Test.YtanlgpdpjgpmfaaX14
import Derived.Test.YtanlgpdpjgpmfaaX11
namespace Slb
open Go Go.Proofs
set_option maxRecDepth 20000
def ok47 (F : Fr) (x : Law19Act) : Prop := x.WF ∧ SlIn F 51 Entry.enc (fun x => x.WF) x.l

def okAct (x : Law19Act) : Prop := 0 ≤ x.gap ∧ x.gap ≤ 1073741824 ∧ x.l.n ≤ 24
def rightP (xs : List Law19Act) : Prop := xs.length ≤ 120 ∧ ∀ x ∈ xs, okAct x
noncomputable def rightB (xs : List Law19Act) : Bool := by classical exact decide (rightP xs)
theorem rightB_true {xs : List Law19Act} : rightB xs = true ↔ rightP xs := by unfold rightB; simp
theorem Expands.len {xs L' : List Entry} (h : Expands xs L') (hl : xs.length ≤ 24) : L'.length ≤ 576 := by
  obtain ⟨L, h1, h2⟩ := h
  have e1 := (imp_len [] xs []).2
  have e2 := expM_len L L []
  rw [← h1.length] at e1
  unfold expM at h2
  rw [← h2.length] at e2
  simp only [List.length_nil, Nat.zero_add] at e1 e2
  have : L.length * L.length ≤ 24 * 24 := Nat.mul_le_mul (by omega) (by omega)
  omega
structure FSt (s : FibS) (i : Nat) (t : Int) : Prop where
  h : KN s.H
  w : KN s.Wt
  hl : s.H.length ≤ i
  wl : s.Wt.length ≤ 576
  fl : FlBy s.Fl (t + 1000)
theorem FSt.ok {s : FibS} {i : Nat} {t : Int} (h : FSt s i t) (hi : i ≤ 100000) : s.Ok := ⟨h.h, h.w, Nat.le_trans h.hl hi, Nat.le_trans h.wl (by decide)⟩
theorem FSt.later {s : FibS} {i j : Nat} {t u : Int} (h : FSt s i t) (hij : i ≤ j) (htu : t ≤ u) : FSt s j u := ⟨h.h, h.w, Nat.le_trans h.hl hij, h.wl, h.fl.mono (by omega)⟩
theorem FSt.want {s : FibS} {i : Nat} {t : Int} (h : FSt s i t) {xs L' : List Entry} (hx : Expands xs L') (hl : xs.length ≤ 24) : FSt ⟨s.H, tabOf L', s.Fl, s.way⟩ i t := by
  have h2 := hx.len hl
  obtain ⟨L, _, hL'⟩ := hx
  exact ⟨h.h, KN.tab hL', h.hl, by show (tabOf L').length ≤ 576; unfold tabOf; rw [List.length_map]; exact h2, h.fl⟩
theorem FSt.gone {s : FibS} {i : Nat} {t : Int} (h : FSt s i t) (u : Int) : FSt (s.gone u) i t := by
  unfold FibS.gone
  split
  · exact h
  · exact ⟨h.h, h.w, h.hl, h.wl, h.fl⟩
theorem FSt.told {s : FibS} {i : Nat} {t : Int} (h : FSt s i t) (ok : Bool) : FSt (s.told t ok) (i + 1) t := by
  unfold FibS.told
  split
  · exact h.later (Nat.le_succ _) (Int.le_refl _)
  · rename_i o _
    exact ⟨h.h.reply _ _, h.w, Nat.le_trans (replyH_len _ _ _) (Nat.succ_le_succ h.hl), h.wl, h.fl.reply _ _⟩
theorem told_way (s : FibS) (t : Int) (ok : Bool) : (s.told t ok).way = none := by
  unfold FibS.told
  split
  · assumption
  · rfl
theorem FSt.new : FSt ⟨[], [], [], none⟩ 0 0 := ⟨KN.nil, KN.nil, Nat.le_refl _, Nat.zero_le _, fun e he => by cases he⟩
theorem step_less {s : FibS} (hs : s.Ok) {t : Int} (hw : s.way = none) (hf : FlBy s.Fl t) {o : Op} (ho : s.next t = some o) : ((s.gone t).told t true).todo.length + 1 = s.todo.length := by
  obtain ⟨H, Wt, Fl, way⟩ := s
  simp only at hw
  subst hw
  have h1 : FibS.next ⟨H, Wt, Fl, none⟩ t = (FibS.todo ⟨H, Wt, Fl, none⟩).find? (dueB Fl t) := rfl
  unfold FibS.gone
  rw [ho]
  rw [h1] at ho
  exact todo_step hs.h.ordL hs.w.ordL (mem_find ho) (hs.h.reply o true).ordL
theorem next_none {s : FibS} {t : Int} (hw : s.way = none) (hf : FlBy s.Fl t) (ho : s.next t = none) : s.todo = [] := by
  obtain ⟨H, Wt, Fl, way⟩ := s
  simp only at hw
  subst hw
  have h1 : FibS.next ⟨H, Wt, Fl, none⟩ t = (FibS.todo ⟨H, Wt, Fl, none⟩).find? (dueB Fl t) := rfl
  rw [h1, FlBy.head hf] at ho
  exact List.head?_eq_none_iff.1 ho
theorem FlBy.gone {s : FibS} {t u : Int} (h : FlBy s.Fl t) : FlBy (s.gone u).Fl t := by
  unfold FibS.gone
  split
  · exact h
  · exact h
theorem FlBy.told {s : FibS} {t u : Int} (h : FlBy s.Fl t) : FlBy (s.told u true).Fl t := by
  unfold FibS.told
  split
  · exact h
  · exact fun e he => h e (mem_adel he)
structure En (s : FibS) (k n : Nat) (t : Int) : Prop where
  h : KN s.H
  w : KN s.Wt
  hl : s.H.length ≤ 121 + k
  wl : s.Wt.length ≤ 576
  fl : FlBy s.Fl t
  way : s.way = none
  todo : s.todo.length ≤ n - k
theorem En.ok {s : FibS} {k n : Nat} {t : Int} (h : En s k n t) (hk : k ≤ 10000) : s.Ok := ⟨h.h, h.w, Nat.le_trans h.hl (by omega), Nat.le_trans h.wl (by decide)⟩
theorem En.step {s : FibS} {k n : Nat} {t : Int} (h : En s k n t) (hk : k ≤ 10000) (hs : (s.next t).isSome = true) : En ((s.gone t).told t true) (k + 1) n t := by
  obtain ⟨o, ho⟩ := Option.isSome_iff_exists.1 hs
  have hl := step_less (h.ok hk) h.way h.fl ho
  have ht := h.todo
  have hg : s.gone t = ⟨s.H, s.Wt, s.Fl, some o⟩ := by unfold FibS.gone; rw [ho]
  have hlen := h.hl
  refine ⟨?_, ?_, ?_, ?_, (h.fl.gone).told, told_way _ _ _, by omega⟩
  · rw [hg]; exact h.h.reply o true
  · rw [hg]; exact h.w
  · rw [hg]; exact Nat.le_trans (replyH_len s.H o true) (by omega)
  · rw [hg]; exact h.wl
theorem En.start {s : FibS} {t u : Int} (h : FSt s 121 t) (hw : s.way = none) (hu : u = t + 2000) : En s 0 (s.H.length + s.Wt.length) u := by
  refine ⟨h.h, h.w, h.hl, h.wl, h.fl.mono (by omega), hw, ?_⟩
  have h1 := todo_len (H := s.H) (Wt := s.Wt) (LH := ordL s.H) (LW := ordL s.Wt)
  have h2 := h.h.ordL.length
  have h3 := h.w.ordL.length
  unfold FibS.todo
  omega

theorem right_spec (F : Fr) {a : Option Addr} {c : Nat} {xs : List Law19Act} (hc : xs.length ≤ 9223372036854775807) (ha : ArgSl F a 4 Law19Act.enc xs)  : Spec Try.prog 14 #[.slice a xs.length c] [] F (fun v S => v = .bool (rightB xs) ∧ S = []) := by
 refine Spec.intro (N := 40) (args := [.slice a xs.length c]) Try.func14 rfl rfl (by simp) ?_
 refine Run.seq fun k1 hk1 => ?_
 refine Run.region ?_
 show Sq _ _ _ [0] _ _ _ _
 refine Sq.quiet (i := 0) rfl (Want.none rfl) rfl (ltN rfl) (QP.assign rfl rfl).read ?_
 refine Sq.nil ?_
 refine hk1 _ _ ?_
 refine Run.seq fun k2 hk2 => ?_
 refine Run.seq fun k3 hk3 => ?_
 refine Run.region ?_
 show Sq _ _ _ [0] _ _ _ _
 refine Sq.quiet (i := 0) rfl (Want.none rfl) rfl (ltN rfl) (QP.assign rfl rfl).read ?_
 refine Sq.nil ?_
 refine hk3 _ _ ?_
 refine Run.block ?_
 refine Run.loop1 (fun (i : Nat) => i ≤ xs.length ∧ i ≤ 121 ∧ ∀ x ∈ xs.take i, okAct x) (fun i => .cons 0 (.slice a xs.length c) (.cons 3 (.int .i64 i) (.nil))) (fun i => []) (fun i => xs.length - i) (0) (⟨Nat.zero_le _, Nat.zero_le _, by simp⟩) ?_ ?_
 ·exact fun _ j => J.envJ (J.keep Takes.nil j) ⟨rfl, rfl, trivial⟩
 rintro i ⟨hile, hi1, hall⟩ kl4 hl4
 refine Run.seq fun k5 hk5 => ?_
 refine Run.seq fun k6 hk6 => ?_
 refine Run.region ?_
 show Sq _ _ _ [0, 1, 2, 3, 4, 5, 6, 7] _ _ _ _
 refine Sq.quiet (i := 0) rfl (Want.none rfl) rfl (ltN rfl) (QP.move rfl rfl).read ?_
 refine Sq.quiet (i := 1) rfl (Want.none rfl) rfl (ltN rfl) (QP.move rfl rfl).read ?_
 refine Sq.quiet (i := 2) rfl (Want.none rfl) rfl (ltN rfl) (QP.len rfl rfl rfl Try.underlying28).read ?_
 refine Sq.quiet (i := 3) rfl (Want.none rfl) rfl (ltN rfl) (QP.lss rfl rfl rfl).read ?_
 refine J.caseD (fun c7 => ?_) (fun c7 => ?_)
 ·skip
  refine Sq.quiet (i := 4) rfl (Want.none rfl) rfl (ltN rfl) (QP.move rfl rfl).read ?_
  refine Sq.quiet (i := 5) rfl (Want.yes rfl rfl rfl rfl) rfl (ltN rfl) (QP.move rfl rfl).read ?_
  refine Sq.quiet (i := 6) rfl (Want.yes rfl rfl rfl rfl) rfl (ltN rfl) (QP.leq rfl rfl rfl).read ?_
  refine J.caseD (fun c10 => ?_) (fun c10 => ?_)
  ·skip
   refine Sq.quiet (i := 7) rfl (Want.none rfl) rfl (ltN rfl) (QP.pick_t rfl rfl rfl).read ?_
   refine Sq.nil ?_
   refine hk6 _ _ ?_
   refine Run.cond_t rfl ?_
   refine Run.skip ?_
   refine hk5 _ _ ?_
   refine Run.seq fun k7 hk7 => ?_
   refine Run.block ?_
   refine Run.seq fun k8 hk8 => ?_
   refine Run.region ?_
   show Sq _ _ _ [0, 1, 2, 3, 4, 5, 6, 7, 8, 9, 10, 11, 12, 13, 14, 15, 16, 17, 18, 19, 20, 21, 22] _ _ _ _
   have hlt : i < xs.length := by omega
   obtain ⟨x, hi⟩ : ∃ x, xs[i]? = some x := ⟨_, List.getElem?_eq_getElem hlt⟩
   obtain ⟨b0, o0, rfl, hs0⟩ := ha.get (by omega)
   refine Sq.quiet (i := 0) rfl (Want.none rfl) rfl (ltN rfl) (QP.move rfl rfl).read ?_
   refine Sq.quiet (i := 1) rfl (Want.none rfl) rfl (ltN rfl) (QP.move rfl rfl).read ?_
   refine Sq.quiet (i := 2) rfl (Want.none rfl) rfl (ltN rfl) (QP.indexAddr rfl rfl rfl Try.underlying28 z47 (by first | omega | (simp <;> omega)) (by first | omega | (simp <;> omega))).read ?_
   refine Sq.quiet (i := 3) rfl (Want.none rfl) rfl (ltN rfl) (QP.fieldAddr rfl rfl f47_1).read ?_
   refine Sq.quiet (i := 4) rfl (Want.none rfl) rfl (ltN rfl) (QR.loadSlF1 rfl rfl g3 Law19Act.enc_len (hs0 _) hi (Law19Act.sub_gap _)) ?_
   refine Sq.quiet (i := 5) rfl (Want.none rfl) rfl (ltN rfl) (QP.lss rfl rfl rfl).read ?_
   refine J.caseD (fun c19 => ?_) (fun c19 => ?_)
   ·skip
    refine Sq.quiet (i := 6) rfl (Want.none rfl) rfl (ltN rfl) (QP.move rfl rfl).read ?_
    refine Sq.skip (i := 7) rfl (Want.no rfl rfl rfl rfl) rfl (ltN rfl) ?_
    refine Sq.skip (i := 8) rfl (Want.no rfl rfl rfl rfl) rfl (ltN rfl) ?_
    refine Sq.skip (i := 9) rfl (Want.no rfl rfl rfl rfl) rfl (ltN rfl) ?_
    refine Sq.skip (i := 10) rfl (Want.no rfl rfl rfl rfl) rfl (ltN rfl) ?_
    refine Sq.skip (i := 11) rfl (Want.no rfl rfl rfl rfl) rfl (ltN rfl) ?_
    refine Sq.skip (i := 12) rfl (Want.no rfl rfl rfl rfl) rfl (ltN rfl) ?_
    refine Sq.quiet (i := 13) rfl (Want.none rfl) rfl (ltN rfl) (QP.pick_t rfl rfl rfl).read ?_
    refine Sq.quiet (i := 14) rfl (Want.none rfl) rfl (ltN rfl) (QP.move rfl rfl).read ?_
    refine Sq.skip (i := 15) rfl (Want.no rfl rfl rfl rfl) rfl (ltN rfl) ?_
    refine Sq.skip (i := 16) rfl (Want.no rfl rfl rfl rfl) rfl (ltN rfl) ?_
    refine Sq.skip (i := 17) rfl (Want.no rfl rfl rfl rfl) rfl (ltN rfl) ?_
    refine Sq.skip (i := 18) rfl (Want.no rfl rfl rfl rfl) rfl (ltN rfl) ?_
    refine Sq.skip (i := 19) rfl (Want.no rfl rfl rfl rfl) rfl (ltN rfl) ?_
    refine Sq.skip (i := 20) rfl (Want.no rfl rfl rfl rfl) rfl (ltN rfl) ?_
    refine Sq.skip (i := 21) rfl (Want.no rfl rfl rfl rfl) rfl (ltN rfl) ?_
    refine Sq.quiet (i := 22) rfl (Want.none rfl) rfl (ltN rfl) (QP.pick_t rfl rfl rfl).read ?_
    refine Sq.nil ?_
    refine hk8 _ _ ?_
    refine Run.cond_t rfl ?_
    refine Run.seq fun k9 hk9 => ?_
    refine Run.region ?_
    show Sq _ _ _ [0] _ _ _ _
    refine Sq.quiet (i := 0) rfl (Want.none rfl) rfl (ltN rfl) (QP.assign rfl rfl).read ?_
    refine Sq.nil ?_
    refine hk9 _ _ ?_
    refine Run.ret ?_
    exact J.ends (res_tmp rfl rfl) Takes.nil ⟨congrArg Value.bool (by refine (Bool.eq_false_iff.2 fun h => ?_).symm; have := (rightB_true.1 h).2 x (List.mem_of_getElem? hi); unfold okAct at this; omega), rfl⟩
   ·skip
    refine Sq.quiet (i := 6) rfl (Want.none rfl) rfl (ltN rfl) (QP.move rfl rfl).read ?_
    refine Sq.quiet (i := 7) rfl (Want.yes rfl rfl rfl rfl) rfl (ltN rfl) (QP.move rfl rfl).read ?_
    refine Sq.quiet (i := 8) rfl (Want.yes rfl rfl rfl rfl) rfl (ltN rfl) (QP.move rfl rfl).read ?_
    refine Sq.quiet (i := 9) rfl (Want.yes rfl rfl rfl rfl) rfl (ltN rfl) (QP.indexAddr rfl rfl rfl Try.underlying28 z47 (by first | omega | (simp <;> omega)) (by first | omega | (simp <;> omega))).read ?_
    refine Sq.quiet (i := 10) rfl (Want.yes rfl rfl rfl rfl) rfl (ltN rfl) (QP.fieldAddr rfl rfl f47_1).read ?_
    refine Sq.quiet (i := 11) rfl (Want.yes rfl rfl rfl rfl) rfl (ltN rfl) (QR.loadSlF1 rfl rfl g3 Law19Act.enc_len (hs0 _) hi (Law19Act.sub_gap _)) ?_
    refine Sq.quiet (i := 12) rfl (Want.yes rfl rfl rfl rfl) rfl (ltN rfl) (QP.gtr rfl rfl rfl).read ?_
    refine J.caseD (fun c26 => ?_) (fun c26 => ?_)
    ·skip
     refine Sq.quiet (i := 13) rfl (Want.none rfl) rfl (ltN rfl) (QP.pick_f rfl rfl rfl).read ?_
     refine Sq.quiet (i := 14) rfl (Want.none rfl) rfl (ltN rfl) (QP.move rfl rfl).read ?_
     refine Sq.skip (i := 15) rfl (Want.no rfl rfl rfl rfl) rfl (ltN rfl) ?_
     refine Sq.skip (i := 16) rfl (Want.no rfl rfl rfl rfl) rfl (ltN rfl) ?_
     refine Sq.skip (i := 17) rfl (Want.no rfl rfl rfl rfl) rfl (ltN rfl) ?_
     refine Sq.skip (i := 18) rfl (Want.no rfl rfl rfl rfl) rfl (ltN rfl) ?_
     refine Sq.skip (i := 19) rfl (Want.no rfl rfl rfl rfl) rfl (ltN rfl) ?_
     refine Sq.skip (i := 20) rfl (Want.no rfl rfl rfl rfl) rfl (ltN rfl) ?_
     refine Sq.skip (i := 21) rfl (Want.no rfl rfl rfl rfl) rfl (ltN rfl) ?_
     refine Sq.quiet (i := 22) rfl (Want.none rfl) rfl (ltN rfl) (QP.pick_t rfl rfl rfl).read ?_
     refine Sq.nil ?_
     refine hk8 _ _ ?_
     refine Run.cond_t rfl ?_
     refine Run.seq fun k10 hk10 => ?_
     refine Run.region ?_
     show Sq _ _ _ [0] _ _ _ _
     refine Sq.quiet (i := 0) rfl (Want.none rfl) rfl (ltN rfl) (QP.assign rfl rfl).read ?_
     refine Sq.nil ?_
     refine hk10 _ _ ?_
     refine Run.ret ?_
     exact J.ends (res_tmp rfl rfl) Takes.nil ⟨congrArg Value.bool (by refine (Bool.eq_false_iff.2 fun h => ?_).symm; have := (rightB_true.1 h).2 x (List.mem_of_getElem? hi); unfold okAct at this; omega), rfl⟩
    ·skip
     refine Sq.quiet (i := 13) rfl (Want.none rfl) rfl (ltN rfl) (QP.pick_f rfl rfl rfl).read ?_
     refine Sq.quiet (i := 14) rfl (Want.none rfl) rfl (ltN rfl) (QP.move rfl rfl).read ?_
     refine Sq.quiet (i := 15) rfl (Want.yes rfl rfl rfl rfl) rfl (ltN rfl) (QP.move rfl rfl).read ?_
     refine Sq.quiet (i := 16) rfl (Want.yes rfl rfl rfl rfl) rfl (ltN rfl) (QP.move rfl rfl).read ?_
     refine Sq.quiet (i := 17) rfl (Want.yes rfl rfl rfl rfl) rfl (ltN rfl) (QP.indexAddr rfl rfl rfl Try.underlying28 z47 (by first | omega | (simp <;> omega)) (by first | omega | (simp <;> omega))).read ?_
     refine Sq.quiet (i := 18) rfl (Want.yes rfl rfl rfl rfl) rfl (ltN rfl) (QP.fieldAddr rfl rfl f47_2).read ?_
     refine Sq.quiet (i := 19) rfl (Want.yes rfl rfl rfl rfl) rfl (ltN rfl) (QR.loadSlF1 rfl rfl g22 Law19Act.enc_len (hs0 _) hi (Law19Act.sub_l _)) ?_
     refine Sq.quiet (i := 20) rfl (Want.yes rfl rfl rfl rfl) rfl (ltN rfl) (QP.len rfl rfl rfl Try.underlying22).read ?_
     refine Sq.quiet (i := 21) rfl (Want.yes rfl rfl rfl rfl) rfl (ltN rfl) (QP.gtr rfl rfl rfl).read ?_
     refine J.caseD (fun c35 => ?_) (fun c35 => ?_)
     ·skip
      refine Sq.quiet (i := 22) rfl (Want.none rfl) rfl (ltN rfl) (QP.pick_f rfl rfl rfl).read ?_
      refine Sq.nil ?_
      refine hk8 _ _ ?_
      refine Run.cond_t rfl ?_
      refine Run.seq fun k11 hk11 => ?_
      refine Run.region ?_
      show Sq _ _ _ [0] _ _ _ _
      refine Sq.quiet (i := 0) rfl (Want.none rfl) rfl (ltN rfl) (QP.assign rfl rfl).read ?_
      refine Sq.nil ?_
      refine hk11 _ _ ?_
      refine Run.ret ?_
      exact J.ends (res_tmp rfl rfl) Takes.nil ⟨congrArg Value.bool (by refine (Bool.eq_false_iff.2 fun h => ?_).symm; have := (rightB_true.1 h).2 x (List.mem_of_getElem? hi); unfold okAct at this; omega), rfl⟩
     ·skip
      refine Sq.quiet (i := 22) rfl (Want.none rfl) rfl (ltN rfl) (QP.pick_f rfl rfl rfl).read ?_
      refine Sq.nil ?_
      refine hk8 _ _ ?_
      refine Run.cond_f rfl ?_
      refine Run.skip ?_
      refine hk7 _ _ ?_
      refine Run.region ?_
      show Sq _ _ _ [0, 1, 2] _ _ _ _
      refine Sq.quiet (i := 0) rfl (Want.none rfl) rfl (ltN rfl) (QP.move rfl rfl).read ?_
      refine Sq.quiet (i := 1) rfl (Want.none rfl) rfl (ltN rfl) (QP.add64 rfl rfl rfl (by first | omega | (simp <;> omega)) (by first | omega | (simp <;> omega))).read ?_
      refine Sq.quiet (i := 2) rfl (Want.none rfl) rfl (ltN rfl) (QP.assign rfl rfl).read ?_
      refine Sq.nil ?_
      exact J.envJ (J.keep Takes.nil (hl4 (i + 1) (⟨by omega, by omega, fun y hy => by rw [List.take_add_one, hi] at hy; rcases List.mem_append.1 hy with hy | hy; exact hall y hy; simp at hy; subst hy; unfold okAct; omega⟩) (by omega))) ⟨rfl, rfl, trivial⟩
  ·skip
   refine Sq.quiet (i := 7) rfl (Want.none rfl) rfl (ltN rfl) (QP.pick_t rfl rfl rfl).read ?_
   refine Sq.nil ?_
   refine hk6 _ _ ?_
   refine Run.cond_f rfl ?_
   refine Run.exit rfl ?_
   refine hk2 _ _ ?_
   refine Run.seq fun k12 hk12 => ?_
   refine Run.region ?_
   show Sq _ _ _ [0, 1, 2, 3] _ _ _ _
   refine Sq.quiet (i := 0) rfl (Want.none rfl) rfl (ltN rfl) (QP.move rfl rfl).read ?_
   refine Sq.quiet (i := 1) rfl (Want.none rfl) rfl (ltN rfl) (QP.len rfl rfl rfl Try.underlying28).read ?_
   refine Sq.quiet (i := 2) rfl (Want.none rfl) rfl (ltN rfl) (QP.leq rfl rfl rfl).read ?_
   refine Sq.quiet (i := 3) rfl (Want.none rfl) rfl (ltN rfl) (QP.assign rfl rfl).read ?_
   refine Sq.nil ?_
   refine hk12 _ _ ?_
   refine Run.ret ?_
   exact J.ends (res_tmp rfl rfl) Takes.nil ⟨congrArg Value.bool (by refine Bool.eq_iff_iff.2 ⟨fun h => rightB_true.2 ?_, fun h => ?_⟩; have h := of_decide_eq_true h; exact ⟨by omega, by rw [List.take_of_length_le (by omega)] at hall; exact hall⟩; have := (rightB_true.1 h).1; exact decide_eq_true (by omega)), rfl⟩
 ·skip
  refine Sq.quiet (i := 4) rfl (Want.none rfl) rfl (ltN rfl) (QP.move rfl rfl).read ?_
  refine Sq.skip (i := 5) rfl (Want.no rfl rfl rfl rfl) rfl (ltN rfl) ?_
  refine Sq.skip (i := 6) rfl (Want.no rfl rfl rfl rfl) rfl (ltN rfl) ?_
  refine Sq.quiet (i := 7) rfl (Want.none rfl) rfl (ltN rfl) (QP.pick_f rfl rfl rfl).read ?_
  refine Sq.nil ?_
  refine hk6 _ _ ?_
  refine Run.cond_f rfl ?_
  refine Run.exit rfl ?_
  refine hk2 _ _ ?_
  refine Run.seq fun k13 hk13 => ?_
  refine Run.region ?_
  show Sq _ _ _ [0, 1, 2, 3] _ _ _ _
  refine Sq.quiet (i := 0) rfl (Want.none rfl) rfl (ltN rfl) (QP.move rfl rfl).read ?_
  refine Sq.quiet (i := 1) rfl (Want.none rfl) rfl (ltN rfl) (QP.len rfl rfl rfl Try.underlying28).read ?_
  refine Sq.quiet (i := 2) rfl (Want.none rfl) rfl (ltN rfl) (QP.leq rfl rfl rfl).read ?_
  refine Sq.quiet (i := 3) rfl (Want.none rfl) rfl (ltN rfl) (QP.assign rfl rfl).read ?_
  refine Sq.nil ?_
  refine hk13 _ _ ?_
  refine Run.ret ?_
  exact J.ends (res_tmp rfl rfl) Takes.nil ⟨congrArg Value.bool (by refine Bool.eq_iff_iff.2 ⟨fun h => rightB_true.2 ?_, fun h => ?_⟩; have h := of_decide_eq_true h; exact ⟨by omega, by rw [List.take_of_length_le (by omega)] at hall; exact hall⟩; have := (rightB_true.1 h).1; exact decide_eq_true (by omega)), rfl⟩

theorem law_ends (F : Fr) {a a2 : Option Addr} {c c2 : Nat} {xs : List Law19Act} {ls : List Entry} (hc : xs.length ≤ 9223372036854775807) (ha : ArgSl F a 4 Law19Act.enc xs) (hw : ∀ x ∈ xs, ok47 F x) (hc2 : ls.length ≤ 9223372036854775807) (ha2 : ArgSl F a2 51 Entry.enc ls)  : Spec Try.prog 5 #[.slice a xs.length c, .slice a2 ls.length c2] [] F (fun v S => v = .bool true ∧ S = []) := by
 refine Spec.intro (N := 109) (args := [.slice a xs.length c, .slice a2 ls.length c2]) Try.func5 rfl rfl (by simp) ?_
 refine Run.seq fun k1 hk1 => ?_
 refine Run.region ?_
 show Sq _ _ _ [0] _ _ _ _
 refine Sq.quiet (i := 0) rfl (Want.none rfl) rfl (ltN rfl) (QP.assign rfl rfl).read ?_
 refine Sq.nil ?_
 refine hk1 _ _ ?_
 refine Run.seq fun k2 hk2 => ?_
 refine Run.seq fun k3 hk3 => ?_
 refine Run.region ?_
 show Sq _ _ _ [0, 1, 2, 3, 4, 5, 6, 7] _ _ _ _
 refine Sq.quiet (i := 0) rfl (Want.none rfl) rfl (ltN rfl) (QP.move rfl rfl).read ?_
 refine Sq.eff (i := 1) rfl (Want.none rfl) rfl (ltN rfl) (EF.call rfl ce14 rfl Takes.nil (fun F' hle hr => right_spec F' hc (ha.mono hle))) ?_
 rintro _ _ ⟨_, ⟨rfl, rfl⟩, rfl⟩
 refine J.app ?_
 refine J.caseB (fun c13 => ?_) (fun c13 => ?_)
 ·skip
  refine Sq.quiet (i := 2) rfl (Want.none rfl) rfl (ltN rfl) (QP.not rfl rfl).read ?_
  refine Sq.quiet (i := 3) rfl (Want.none rfl) rfl (ltN rfl) (QP.move rfl rfl).read ?_
  refine Sq.quiet (i := 4) rfl (Want.yes rfl rfl rfl rfl) rfl (ltN rfl) (QP.move rfl rfl).read ?_
  refine Sq.quiet (i := 5) rfl (Want.yes rfl rfl rfl rfl) rfl (ltN rfl) (QP.len rfl rfl rfl Try.underlying22).read ?_
  refine Sq.quiet (i := 6) rfl (Want.yes rfl rfl rfl rfl) rfl (ltN rfl) (QP.gtr rfl rfl rfl).read ?_
  refine J.caseD (fun c18 => ?_) (fun c18 => ?_)
  ·skip
   refine Sq.quiet (i := 7) rfl (Want.none rfl) rfl (ltN rfl) (QP.pick_f rfl rfl rfl).read ?_
   refine Sq.nil ?_
   refine hk3 _ _ ?_
   refine Run.cond_t rfl ?_
   refine Run.seq fun k4 hk4 => ?_
   refine Run.region ?_
   show Sq _ _ _ [0, 1] _ _ _ _
   refine Sq.eff (i := 0) rfl (Want.none rfl) rfl (ltN rfl) (EF.call rfl ce10 rfl Takes.nil (fun F' hle hr => live_spec F')) ?_
   rintro _ _ ⟨_, ⟨rfl, rfl⟩, rfl⟩
   refine J.app ?_
   refine Sq.quiet (i := 1) rfl (Want.none rfl) rfl (ltN rfl) (QP.assign rfl rfl).read ?_
   refine Sq.nil ?_
   refine hk4 _ _ ?_
   refine Run.ret ?_
   exact J.ends (res_tmp rfl rfl) Takes.nil ⟨rfl, rfl⟩
  ·skip
   refine Sq.quiet (i := 7) rfl (Want.none rfl) rfl (ltN rfl) (QP.pick_f rfl rfl rfl).read ?_
   refine Sq.nil ?_
   refine hk3 _ _ ?_
   refine Run.cond_f rfl ?_
   refine Run.skip ?_
   refine hk2 _ _ ?_
   refine Run.seq fun k5 hk5 => ?_
   refine Run.region ?_
   show Sq _ _ _ [0, 1] _ _ _ _
   refine Sq.eff (i := 0) rfl (Want.none rfl) rfl (ltN rfl) (EF.call rfl ce15 rfl Takes.nil (fun F' hle hr => newA F')) ?_
   rintro _ _ ⟨_, ⟨kb, rfl, rfl⟩, rfl⟩
   refine J.app ?_
   refine Sq.quiet (i := 1) rfl (Want.none rfl) rfl (ltN rfl) (QP.assign rfl rfl).read ?_
   refine Sq.nil ?_
   refine hk5 _ _ ?_
   refine Run.seq fun k6 hk6 => ?_
   refine Run.seq fun k7 hk7 => ?_
   refine Run.region ?_
   show Sq _ _ _ [0, 1] _ _ _ _
   refine Sq.quiet (i := 0) rfl (Want.none rfl) rfl (ltN rfl) (QP.move rfl rfl).read ?_
   refine Sq.quiet (i := 1) rfl (Want.none rfl) rfl (ltN rfl) (QP.ptr_eq_nil rfl rfl rfl Try.underlying30).read ?_
   refine Sq.nil ?_
   refine hk7 _ _ ?_
   refine Run.cond_f rfl ?_
   refine Run.skip ?_
   refine hk6 _ _ ?_
   refine Run.seq fun k8 hk8 => ?_
   refine Run.region ?_
   show Sq _ _ _ [0] _ _ _ _
   have hrt : rightP xs := rightB_true.1 (by simpa using c13)
   have hrl := hrt.1
   refine Sq.quiet (i := 0) rfl (Want.none rfl) rfl (ltN rfl) (QP.assign rfl rfl).read ?_
   refine Sq.nil ?_
   refine hk8 _ _ ?_
   refine Run.seq fun k9 hk9 => ?_
   refine Run.seq fun k10 hk10 => ?_
   refine Run.region ?_
   show Sq _ _ _ [0] _ _ _ _
   refine Sq.quiet (i := 0) rfl (Want.none rfl) rfl (ltN rfl) (QP.assign rfl rfl).read ?_
   refine Sq.nil ?_
   refine hk10 _ _ ?_
   refine Run.block ?_
   refine Run.loop3 (fun (i : Nat) (t : Int) (s : FibS) => i ≤ xs.length ∧ (0 ≤ t ∧ t ≤ i * 1073741824) ∧ FSt s i t) (fun i t s => .cons 0 (.slice a xs.length c) (.cons 1 (.slice a2 ls.length c2) (.cons 5 (fp kb) (.cons 6 (.int .i64 t) (.cons 7 (.int .i64 i) (.nil)))))) (fun i t s => [FibA kb s]) (fun i t s => xs.length - i) (0) (0) (⟨[], [], [], none⟩) (⟨Nat.zero_le _, by omega, FSt.new⟩) ?_ ?_
   ·exact fun _ j => J.envJ (J.keep (.cons (by repeat constructor) Takes.nil) j) ⟨rfl, rfl, rfl, rfl, rfl, trivial⟩
   rintro i t s ⟨hile, ht, hst⟩ kl11 hl11
   refine Run.seq fun k12 hk12 => ?_
   refine Run.seq fun k13 hk13 => ?_
   refine Run.region ?_
   show Sq _ _ _ [0, 1, 2, 3] _ _ _ _
   refine Sq.quiet (i := 0) rfl (Want.none rfl) rfl (ltN rfl) (QP.move rfl rfl).read ?_
   refine Sq.quiet (i := 1) rfl (Want.none rfl) rfl (ltN rfl) (QP.move rfl rfl).read ?_
   refine Sq.quiet (i := 2) rfl (Want.none rfl) rfl (ltN rfl) (QP.len rfl rfl rfl Try.underlying28).read ?_
   refine Sq.quiet (i := 3) rfl (Want.none rfl) rfl (ltN rfl) (QP.lss rfl rfl rfl).read ?_
   refine J.caseD (fun c27 => ?_) (fun c27 => ?_)
   ·skip
    refine Sq.nil ?_
    refine hk13 _ _ ?_
    refine Run.cond_t rfl ?_
    refine Run.skip ?_
    refine hk12 _ _ ?_
    refine Run.seq fun k14 hk14 => ?_
    refine Run.block ?_
    refine Run.seq fun k15 hk15 => ?_
    refine Run.region ?_
    show Sq _ _ _ [0, 1, 2, 3, 4, 5, 6, 7] _ _ _ _
    have hlt : i < xs.length := by omega
    obtain ⟨x, hi⟩ : ∃ x, xs[i]? = some x := ⟨_, List.getElem?_eq_getElem hlt⟩
    obtain ⟨b0, o0, rfl, hs0⟩ := ha.get (by omega)
    obtain ⟨_, ⟨ys, hn, hyl, hya, _⟩⟩ := hw x (List.mem_of_getElem? hi)
    have hlv : Slc.v x.l = .slice x.l.a ys.length x.l.c := by rw [← hn]; rfl
    have hox := hrt.2 x (List.mem_of_getElem? hi)
    unfold okAct at hox
    refine Sq.quiet (i := 0) rfl (Want.none rfl) rfl (ltN rfl) (QP.move rfl rfl).read ?_
    refine Sq.quiet (i := 1) rfl (Want.none rfl) rfl (ltN rfl) (QP.move rfl rfl).read ?_
    refine Sq.quiet (i := 2) rfl (Want.none rfl) rfl (ltN rfl) (QP.move rfl rfl).read ?_
    refine Sq.quiet (i := 3) rfl (Want.none rfl) rfl (ltN rfl) (QP.indexAddr rfl rfl rfl Try.underlying28 z47 (by first | omega | (simp <;> omega)) (by first | omega | (simp <;> omega))).read ?_
    refine Sq.quiet (i := 4) rfl (Want.none rfl) rfl (ltN rfl) (QP.fieldAddr rfl rfl f47_1).read ?_
    refine Sq.quiet (i := 5) rfl (Want.none rfl) rfl (ltN rfl) (QR.loadSlF1 rfl rfl g3 Law19Act.enc_len (hs0 _) hi (Law19Act.sub_gap _)) ?_
    refine Sq.quiet (i := 6) rfl (Want.none rfl) rfl (ltN rfl) (QP.add64 rfl rfl rfl (by first | omega | (simp <;> omega)) (by first | omega | (simp <;> omega))).read ?_
    refine Sq.quiet (i := 7) rfl (Want.none rfl) rfl (ltN rfl) (QP.assign rfl rfl).read ?_
    refine Sq.nil ?_
    refine hk15 _ _ ?_
    refine Run.seq fun k16 hk16 => ?_
    refine Run.region ?_
    show Sq _ _ _ [0, 1, 2, 3, 4] _ _ _ _
    refine Sq.quiet (i := 0) rfl (Want.none rfl) rfl (ltN rfl) (QP.move rfl rfl).read ?_
    refine Sq.quiet (i := 1) rfl (Want.none rfl) rfl (ltN rfl) (QP.move rfl rfl).read ?_
    refine Sq.quiet (i := 2) rfl (Want.none rfl) rfl (ltN rfl) (QP.indexAddr rfl rfl rfl Try.underlying28 z47 (by first | omega | (simp <;> omega)) (by first | omega | (simp <;> omega))).read ?_
    refine Sq.quiet (i := 3) rfl (Want.none rfl) rfl (ltN rfl) (QP.fieldAddr rfl rfl f47_0).read ?_
    refine Sq.quiet (i := 4) rfl (Want.none rfl) rfl (ltN rfl) (QR.loadSlF1 rfl rfl g3 Law19Act.enc_len (hs0 _) hi (Law19Act.sub_kind _)) ?_
    refine Sq.nil ?_
    refine hk16 _ _ ?_
    refine Run.block ?_
    refine Run.seq fun k17 hk17 => ?_
    refine Run.region ?_
    show Sq _ _ _ [0, 1] _ _ _ _
    refine Sq.quiet (i := 0) rfl (Want.none rfl) rfl (ltN rfl) (QP.eql rfl rfl rfl).read ?_
    refine J.caseD (fun c43 => ?_) (fun c43 => ?_)
    ·skip
     refine Sq.quiet (i := 1) rfl (Want.none rfl) rfl (ltN rfl) (QP.assign rfl rfl).read ?_
     refine Sq.nil ?_
     refine hk17 _ _ ?_
     refine Run.cond_t rfl ?_
     refine Run.region ?_
     show Sq _ _ _ [0, 1, 2, 3, 4, 5, 6] _ _ _ _
     refine Sq.quiet (i := 0) rfl (Want.none rfl) rfl (ltN rfl) (QP.move rfl rfl).read ?_
     refine Sq.quiet (i := 1) rfl (Want.none rfl) rfl (ltN rfl) (QP.move rfl rfl).read ?_
     refine Sq.quiet (i := 2) rfl (Want.none rfl) rfl (ltN rfl) (QP.move rfl rfl).read ?_
     refine Sq.quiet (i := 3) rfl (Want.none rfl) rfl (ltN rfl) (QP.indexAddr rfl rfl rfl Try.underlying28 z47 (by first | omega | (simp <;> omega)) (by first | omega | (simp <;> omega))).read ?_
     refine Sq.quiet (i := 4) rfl (Want.none rfl) rfl (ltN rfl) (QP.fieldAddr rfl rfl f47_2).read ?_
     refine Sq.quiet (i := 5) rfl (Want.none rfl) rfl (ltN rfl) (QR.loadSlF1 rfl rfl g22 Law19Act.enc_len (hs0 _) hi (Law19Act.sub_l _)) ?_
     rw [hlv]
     refine Sq.eff (i := 6) rfl (Want.none rfl) rfl (ltN rfl) (EF.call rfl ce16 rfl (.cons (by repeat constructor) Takes.nil) (fun F' hle hr => wantA F' s (xs := ys) (hya.mono hle) (by omega))) ?_
     rintro _ _ ⟨_, ⟨L', rfl, hex, rfl⟩, rfl⟩
     refine J.app ?_
     have hst2 : FSt _ (i + 1) (t + x.gap) := ((hst.want hex (by omega)).later (Nat.le_succ i) (by omega))
     refine Sq.nil ?_
     refine hk14 _ _ ?_
     refine Run.region ?_
     show Sq _ _ _ [0, 1, 2] _ _ _ _
     refine Sq.quiet (i := 0) rfl (Want.none rfl) rfl (ltN rfl) (QP.move rfl rfl).read ?_
     refine Sq.quiet (i := 1) rfl (Want.none rfl) rfl (ltN rfl) (QP.add64 rfl rfl rfl (by first | omega | (simp <;> omega)) (by first | omega | (simp <;> omega))).read ?_
     refine Sq.quiet (i := 2) rfl (Want.none rfl) rfl (ltN rfl) (QP.assign rfl rfl).read ?_
     refine Sq.nil ?_
     exact J.envJ (J.keep (.cons (by repeat constructor) Takes.nil) (hl11 (i + 1) (t + x.gap) (_) (⟨by omega, by omega, hst2⟩) (by omega))) ⟨rfl, rfl, rfl, rfl, rfl, trivial⟩
    ·skip
     refine Sq.quiet (i := 1) rfl (Want.none rfl) rfl (ltN rfl) (QP.assign rfl rfl).read ?_
     refine Sq.nil ?_
     refine hk17 _ _ ?_
     refine Run.cond_f rfl ?_
     refine Run.seq fun k18 hk18 => ?_
     refine Run.region ?_
     show Sq _ _ _ [0, 1] _ _ _ _
     refine Sq.quiet (i := 0) rfl (Want.none rfl) rfl (ltN rfl) (QP.eql rfl rfl rfl).read ?_
     refine J.caseD (fun c52 => ?_) (fun c52 => ?_)
     ·skip
      refine Sq.quiet (i := 1) rfl (Want.none rfl) rfl (ltN rfl) (QP.assign rfl rfl).read ?_
      refine Sq.nil ?_
      refine hk18 _ _ ?_
      refine Run.cond_t rfl ?_
      refine Run.region ?_
      show Sq _ _ _ [0, 1, 2] _ _ _ _
      refine Sq.quiet (i := 0) rfl (Want.none rfl) rfl (ltN rfl) (QP.move rfl rfl).read ?_
      refine Sq.quiet (i := 1) rfl (Want.none rfl) rfl (ltN rfl) (QP.move rfl rfl).read ?_
      refine Sq.eff (i := 2) rfl (Want.none rfl) rfl (ltN rfl) (EF.call rfl ce18 rfl (.cons (by repeat constructor) Takes.nil) (fun F' hle hr => nextA F' (hst.ok (by omega)) _)) ?_
      rintro _ _ ⟨_, ⟨rfl, rfl⟩, rfl⟩
      refine J.app ?_
      have hst2 : FSt _ (i + 1) (t + x.gap) := ((hst.later (Nat.le_succ i) (by omega)).gone (t + x.gap))
      refine Sq.nil ?_
      refine hk14 _ _ ?_
      refine Run.region ?_
      show Sq _ _ _ [0, 1, 2] _ _ _ _
      refine Sq.quiet (i := 0) rfl (Want.none rfl) rfl (ltN rfl) (QP.move rfl rfl).read ?_
      refine Sq.quiet (i := 1) rfl (Want.none rfl) rfl (ltN rfl) (QP.add64 rfl rfl rfl (by first | omega | (simp <;> omega)) (by first | omega | (simp <;> omega))).read ?_
      refine Sq.quiet (i := 2) rfl (Want.none rfl) rfl (ltN rfl) (QP.assign rfl rfl).read ?_
      refine Sq.nil ?_
      exact J.envJ (J.keep (.cons (by repeat constructor) Takes.nil) (hl11 (i + 1) (t + x.gap) (_) (⟨by omega, by omega, hst2⟩) (by omega))) ⟨rfl, rfl, rfl, rfl, rfl, trivial⟩
     ·skip
      refine Sq.quiet (i := 1) rfl (Want.none rfl) rfl (ltN rfl) (QP.assign rfl rfl).read ?_
      refine Sq.nil ?_
      refine hk18 _ _ ?_
      refine Run.cond_f rfl ?_
      refine Run.seq fun k19 hk19 => ?_
      refine Run.region ?_
      show Sq _ _ _ [0, 1] _ _ _ _
      refine Sq.quiet (i := 0) rfl (Want.none rfl) rfl (ltN rfl) (QP.eql rfl rfl rfl).read ?_
      refine J.caseD (fun c57 => ?_) (fun c57 => ?_)
      ·skip
       refine Sq.quiet (i := 1) rfl (Want.none rfl) rfl (ltN rfl) (QP.assign rfl rfl).read ?_
       refine Sq.nil ?_
       refine hk19 _ _ ?_
       refine Run.cond_t rfl ?_
       refine Run.region ?_
       show Sq _ _ _ [0, 1, 2, 3, 4, 5, 6, 7] _ _ _ _
       refine Sq.quiet (i := 0) rfl (Want.none rfl) rfl (ltN rfl) (QP.move rfl rfl).read ?_
       refine Sq.quiet (i := 1) rfl (Want.none rfl) rfl (ltN rfl) (QP.move rfl rfl).read ?_
       refine Sq.quiet (i := 2) rfl (Want.none rfl) rfl (ltN rfl) (QP.move rfl rfl).read ?_
       refine Sq.quiet (i := 3) rfl (Want.none rfl) rfl (ltN rfl) (QP.move rfl rfl).read ?_
       refine Sq.quiet (i := 4) rfl (Want.none rfl) rfl (ltN rfl) (QP.indexAddr rfl rfl rfl Try.underlying28 z47 (by first | omega | (simp <;> omega)) (by first | omega | (simp <;> omega))).read ?_
       refine Sq.quiet (i := 5) rfl (Want.none rfl) rfl (ltN rfl) (QP.fieldAddr rfl rfl f47_3).read ?_
       refine Sq.quiet (i := 6) rfl (Want.none rfl) rfl (ltN rfl) (QR.loadSlF1 rfl rfl g4 Law19Act.enc_len (hs0 _) hi (Law19Act.sub_ok _)) ?_
       refine Sq.eff (i := 7) rfl (Want.none rfl) rfl (ltN rfl) (EF.call rfl ce21 rfl (.cons (by repeat constructor) Takes.nil) (fun F' hle hr => replyA F' s _ (by omega) _)) ?_
       rintro _ _ ⟨_, ⟨rfl, rfl⟩, rfl⟩
       refine J.app ?_
       have hst2 : FSt _ (i + 1) (t + x.gap) := ((hst.later (Nat.le_refl i) (by omega : t ≤ t + x.gap)).told x.ok)
       refine Sq.nil ?_
       refine hk14 _ _ ?_
       refine Run.region ?_
       show Sq _ _ _ [0, 1, 2] _ _ _ _
       refine Sq.quiet (i := 0) rfl (Want.none rfl) rfl (ltN rfl) (QP.move rfl rfl).read ?_
       refine Sq.quiet (i := 1) rfl (Want.none rfl) rfl (ltN rfl) (QP.add64 rfl rfl rfl (by first | omega | (simp <;> omega)) (by first | omega | (simp <;> omega))).read ?_
       refine Sq.quiet (i := 2) rfl (Want.none rfl) rfl (ltN rfl) (QP.assign rfl rfl).read ?_
       refine Sq.nil ?_
       exact J.envJ (J.keep (.cons (by repeat constructor) Takes.nil) (hl11 (i + 1) (t + x.gap) (_) (⟨by omega, by omega, hst2⟩) (by omega))) ⟨rfl, rfl, rfl, rfl, rfl, trivial⟩
      ·skip
       refine Sq.quiet (i := 1) rfl (Want.none rfl) rfl (ltN rfl) (QP.assign rfl rfl).read ?_
       refine Sq.nil ?_
       refine hk19 _ _ ?_
       refine Run.cond_f rfl ?_
       refine Run.skip ?_
       refine hk14 _ _ ?_
       refine Run.region ?_
       show Sq _ _ _ [0, 1, 2] _ _ _ _
       refine Sq.quiet (i := 0) rfl (Want.none rfl) rfl (ltN rfl) (QP.move rfl rfl).read ?_
       refine Sq.quiet (i := 1) rfl (Want.none rfl) rfl (ltN rfl) (QP.add64 rfl rfl rfl (by first | omega | (simp <;> omega)) (by first | omega | (simp <;> omega))).read ?_
       refine Sq.quiet (i := 2) rfl (Want.none rfl) rfl (ltN rfl) (QP.assign rfl rfl).read ?_
       refine Sq.nil ?_
       exact J.envJ (J.keep (.cons (by repeat constructor) Takes.nil) (hl11 (i + 1) (t + x.gap) (_) (⟨by omega, by omega, hst.later (Nat.le_succ i) (by omega)⟩) (by omega))) ⟨rfl, rfl, rfl, rfl, rfl, trivial⟩
   ·skip
    refine Sq.nil ?_
    refine hk13 _ _ ?_
    refine Run.cond_f rfl ?_
    refine Run.exit rfl ?_
    refine hk9 _ _ ?_
    refine Run.seq fun k20 hk20 => ?_
    refine Run.region ?_
    show Sq _ _ _ [0, 1, 2] _ _ _ _
    have hs1 := (hst.later (show i ≤ 120 by omega) (Int.le_refl t)).told true
    refine Sq.quiet (i := 0) rfl (Want.none rfl) rfl (ltN rfl) (QP.move rfl rfl).read ?_
    refine Sq.quiet (i := 1) rfl (Want.none rfl) rfl (ltN rfl) (QP.move rfl rfl).read ?_
    refine Sq.eff (i := 2) rfl (Want.none rfl) rfl (ltN rfl) (EF.call rfl ce21 rfl (.cons (by repeat constructor) Takes.nil) (fun F' hle hr => replyA F' s _ (by omega) _)) ?_
    rintro _ _ ⟨_, ⟨rfl, rfl⟩, rfl⟩
    refine J.app ?_
    refine Sq.nil ?_
    refine hk20 _ _ ?_
    refine Run.seq fun k21 hk21 => ?_
    refine Run.region ?_
    show Sq _ _ _ [0, 1, 2] _ _ _ _
    refine Sq.quiet (i := 0) rfl (Want.none rfl) rfl (ltN rfl) (QP.move rfl rfl).read ?_
    refine Sq.quiet (i := 1) rfl (Want.none rfl) rfl (ltN rfl) (QP.move rfl rfl).read ?_
    refine Sq.eff (i := 2) rfl (Want.none rfl) rfl (ltN rfl) (EF.call rfl ce16 rfl (.cons (by repeat constructor) Takes.nil) (fun F' hle hr => wantA F' (s.told t true) (xs := ls) (ha2.mono hle) (by omega))) ?_
    rintro _ _ ⟨_, ⟨L', rfl, hex, rfl⟩, rfl⟩
    refine J.app ?_
    have hs3 := hs1.want hex (by omega)
    refine Sq.nil ?_
    refine hk21 _ _ ?_
    refine Run.seq fun k22 hk22 => ?_
    refine Run.region ?_
    show Sq _ _ _ [0, 1, 2] _ _ _ _
    refine Sq.quiet (i := 0) rfl (Want.none rfl) rfl (ltN rfl) (QP.move rfl rfl).read ?_
    refine Sq.quiet (i := 1) rfl (Want.none rfl) rfl (ltN rfl) (QP.add64 rfl rfl rfl (by first | omega | (simp <;> omega)) (by first | omega | (simp <;> omega))).read ?_
    refine Sq.quiet (i := 2) rfl (Want.none rfl) rfl (ltN rfl) (QP.assign rfl rfl).read ?_
    refine Sq.nil ?_
    refine hk22 _ _ ?_
    refine Run.seq fun k23 hk23 => ?_
    refine Run.region ?_
    show Sq _ _ _ [0, 1, 2, 3, 4, 5, 6, 7] _ _ _ _
    refine Sq.quiet (i := 0) rfl (Want.none rfl) rfl (ltN rfl) (QP.move rfl rfl).read ?_
    refine Sq.eff (i := 1) rfl (Want.none rfl) rfl (ltN rfl) (EF.call rfl ce27 rfl (.cons (by repeat constructor) Takes.nil) (fun F' hle hr => hasA F' (hs3.ok (by omega)))) ?_
    rintro v75 _ ⟨_, rfl, rfl⟩
    refine J.app ?_
    refine Sq.slCase (v := v75) (xs := (ordL (s.told t true).H)) (by repeat constructor) (fun a75 c75 hv75 hh75 => ?_)
    subst hv75
    refine Sq.quiet (i := 2) rfl (Want.none rfl) rfl (ltN rfl) (QP.len rfl rfl rfl Try.underlying22).read ?_
    refine Sq.quiet (i := 3) rfl (Want.none rfl) rfl (ltN rfl) (QP.move rfl rfl).read ?_
    refine Sq.eff (i := 4) rfl (Want.none rfl) rfl (ltN rfl) (EF.call rfl ce28 rfl (.cons (by repeat constructor) Takes.nil) (fun F' hle hr => wantedA F' (hs3.ok (by omega)))) ?_
    rintro v78 _ ⟨_, rfl, rfl⟩
    refine J.app ?_
    refine Sq.slCase (v := v78) (xs := (ordL (tabOf L'))) (by repeat constructor) (fun a78 c78 hv78 hh78 => ?_)
    subst hv78
    have hn1 := hs3.h.ordL.length
    have hn2 := hs3.w.ordL.length
    have hn3 := hs3.hl
    have hn4 := hs3.wl
    have hens := En.start hs3 (told_way _ _ _) (show t + 2000 = t + 2000 from rfl)
    simp only at hn1 hn2 hn3 hn4 hens
    rw [← hn1, ← hn2] at hens
    refine Sq.quiet (i := 5) rfl (Want.none rfl) rfl (ltN rfl) (QP.len rfl rfl rfl Try.underlying22).read ?_
    refine Sq.quiet (i := 6) rfl (Want.none rfl) rfl (ltN rfl) (QP.add64 rfl rfl rfl (by first | omega | (simp <;> omega)) (by first | omega | (simp <;> omega))).read ?_
    refine Sq.quiet (i := 7) rfl (Want.none rfl) rfl (ltN rfl) (QP.assign rfl rfl).read ?_
    refine Sq.nil ?_
    refine hk23 _ _ ?_
    refine Run.seq fun k24 hk24 => ?_
    refine Run.seq fun k25 hk25 => ?_
    refine Run.region ?_
    show Sq _ _ _ [0] _ _ _ _
    refine Sq.quiet (i := 0) rfl (Want.none rfl) rfl (ltN rfl) (QP.assign rfl rfl).read ?_
    refine Sq.nil ?_
    refine hk25 _ _ ?_
    refine Run.block ?_
    refine Run.loop2 (fun (k : Nat) (s2 : FibS) => k ≤ (ordL (s.told t true).H).length + (ordL (tabOf L')).length ∧ En s2 k ((ordL (s.told t true).H).length + (ordL (tabOf L')).length) (t + 2000)) (fun k s2 => .cons 5 (fp kb) (.cons 6 (.int .i64 (t + 2000)) (.cons 8 (.int .i64 ((ordL (s.told t true).H).length + (ordL (tabOf L')).length)) (.cons 9 (.int .i64 k) (.nil))))) (fun k s2 => [FibA kb s2]) (fun k s2 => (ordL (s.told t true).H).length + (ordL (tabOf L')).length - k) (0) (_) (⟨Nat.zero_le _, hens⟩) ?_ ?_
    ·exact fun _ j => J.envJ (J.keep (.cons (by repeat constructor) Takes.nil) j) ⟨rfl, rfl, rfl, rfl, trivial⟩
    rintro k s2 ⟨hkn, hen⟩ kl26 hl26
    refine Run.seq fun k27 hk27 => ?_
    refine Run.seq fun k28 hk28 => ?_
    refine Run.region ?_
    show Sq _ _ _ [0, 1, 2] _ _ _ _
    refine Sq.quiet (i := 0) rfl (Want.none rfl) rfl (ltN rfl) (QP.move rfl rfl).read ?_
    refine Sq.quiet (i := 1) rfl (Want.none rfl) rfl (ltN rfl) (QP.move rfl rfl).read ?_
    refine Sq.quiet (i := 2) rfl (Want.none rfl) rfl (ltN rfl) (QP.lss rfl rfl rfl).read ?_
    refine J.caseD (fun c83 => ?_) (fun c83 => ?_)
    ·skip
     refine Sq.nil ?_
     refine hk28 _ _ ?_
     refine Run.cond_t rfl ?_
     refine Run.skip ?_
     refine hk27 _ _ ?_
     refine Run.seq fun k29 hk29 => ?_
     refine Run.block ?_
     refine Run.seq fun k30 hk30 => ?_
     refine Run.region ?_
     show Sq _ _ _ [0, 1, 2, 3, 4, 5, 6, 7, 8] _ _ _ _
     refine Sq.quiet (i := 0) rfl (Want.none rfl) rfl (ltN rfl) (QP.move rfl rfl).read ?_
     refine Sq.quiet (i := 1) rfl (Want.none rfl) rfl (ltN rfl) (QP.move rfl rfl).read ?_
     refine Sq.eff (i := 2) rfl (Want.none rfl) rfl (ltN rfl) (EF.call rfl ce18 rfl (.cons (by repeat constructor) Takes.nil) (fun F' hle hr => nextA F' (hen.ok (by omega)) _)) ?_
     rintro _ _ ⟨_, ⟨rfl, rfl⟩, rfl⟩
     refine J.app ?_
     refine Sq.quiet (i := 3) rfl (Want.none rfl) rfl (ltN rfl) (QP.move rfl rfl).read ?_
     refine Sq.quiet (i := 4) rfl (Want.none rfl) rfl (ltN rfl) (QP.extract rfl rfl rfl).read ?_
     refine Sq.quiet (i := 5) rfl (Want.none rfl) rfl (ltN rfl) (QP.extract rfl rfl rfl).read ?_
     refine J.caseB (fun c91 => ?_) (fun c91 => ?_)
     ·skip
      refine Sq.eff (i := 6) rfl (Want.none rfl) rfl (ltN rfl) (EF.allocA (l := Op.enc Op.zero) rfl zero43) ?_
      rintro _ _ ⟨b10, rfl, rfl⟩
      refine Sq.act (i := 7) rfl (Want.none rfl) rfl (EF.storeA rfl rfl rfl z43 (SetL.all (Op.enc_len _) (Op.enc_len _)) (Op.enc_cell _)) ?_
      rintro _ _ rfl
      refine Sq.quiet (i := 8) rfl (Want.none rfl) rfl (ltN rfl) (QP.assign rfl rfl).read ?_
      refine Sq.nil ?_
      refine hk30 _ _ ?_
      refine Run.seq fun k31 hk31 => ?_
      refine Run.seq fun k32 hk32 => ?_
      refine Run.region ?_
      show Sq _ _ _ [0, 1] _ _ _ _
      refine Sq.quiet (i := 0) rfl (Want.none rfl) rfl (ltN rfl) (QP.move rfl rfl).read ?_
      refine Sq.quiet (i := 1) rfl (Want.none rfl) rfl (ltN rfl) (QP.not rfl rfl).read ?_
      refine Sq.nil ?_
      refine hk32 _ _ ?_
      refine Run.cond_f rfl ?_
      refine Run.skip ?_
      refine hk31 _ _ ?_
      refine Run.region ?_
      show Sq _ _ _ [0, 1, 2] _ _ _ _
      refine Sq.quiet (i := 0) rfl (Want.none rfl) rfl (ltN rfl) (QP.move rfl rfl).read ?_
      refine Sq.quiet (i := 1) rfl (Want.none rfl) rfl (ltN rfl) (QP.move rfl rfl).read ?_
      refine Sq.eff (i := 2) rfl (Want.none rfl) rfl (ltN rfl) (EF.call rfl ce21 rfl (.cons (by repeat constructor) Takes.nil) (fun F' hle hr => replyA F' (s2.gone (t + 2000)) _ (by omega) _)) ?_
      rintro _ _ ⟨_, ⟨rfl, rfl⟩, rfl⟩
      refine J.app ?_
      refine Sq.nil ?_
      refine hk29 _ _ ?_
      refine Run.region ?_
      show Sq _ _ _ [0, 1, 2] _ _ _ _
      refine Sq.quiet (i := 0) rfl (Want.none rfl) rfl (ltN rfl) (QP.move rfl rfl).read ?_
      refine Sq.quiet (i := 1) rfl (Want.none rfl) rfl (ltN rfl) (QP.add64 rfl rfl rfl (by first | omega | (simp <;> omega)) (by first | omega | (simp <;> omega))).read ?_
      refine Sq.quiet (i := 2) rfl (Want.none rfl) rfl (ltN rfl) (QP.assign rfl rfl).read ?_
      refine Sq.nil ?_
      exact J.envJ (J.keep (.cons (by repeat constructor) Takes.nil) (hl26 (k + 1) (_) (⟨by omega, hen.step (by omega) (by simpa using c91)⟩) (by omega))) ⟨rfl, rfl, rfl, rfl, trivial⟩
     ·skip
      refine Sq.eff (i := 6) rfl (Want.none rfl) rfl (ltN rfl) (EF.allocA (l := Op.enc Op.zero) rfl zero43) ?_
      rintro _ _ ⟨b10, rfl, rfl⟩
      refine Sq.act (i := 7) rfl (Want.none rfl) rfl (EF.storeA rfl rfl rfl z43 (SetL.all (Op.enc_len _) (Op.enc_len _)) (Op.enc_cell _)) ?_
      rintro _ _ rfl
      refine Sq.quiet (i := 8) rfl (Want.none rfl) rfl (ltN rfl) (QP.assign rfl rfl).read ?_
      refine Sq.nil ?_
      refine hk30 _ _ ?_
      refine Run.seq fun k33 hk33 => ?_
      refine Run.seq fun k34 hk34 => ?_
      refine Run.region ?_
      show Sq _ _ _ [0, 1] _ _ _ _
      refine Sq.quiet (i := 0) rfl (Want.none rfl) rfl (ltN rfl) (QP.move rfl rfl).read ?_
      refine Sq.quiet (i := 1) rfl (Want.none rfl) rfl (ltN rfl) (QP.not rfl rfl).read ?_
      refine Sq.nil ?_
      refine hk34 _ _ ?_
      refine Run.cond_t rfl ?_
      refine Run.exit rfl ?_
      refine hk24 _ _ ?_
      refine Run.seq fun k35 hk35 => ?_
      refine Run.region ?_
      show Sq _ _ _ [0, 1, 2, 3, 4, 5, 6, 7, 8, 9, 10, 11, 12] _ _ _ _
      rw [show s2.gone (t + 2000) = s2 by unfold FibS.gone; rw [show s2.next (t + 2000) = none by simpa using c91]]
      have hok := hen.ok (by omega)
      have htd : s2.todo = [] := next_none hen.way hen.fl (by simpa using c91)
      have hdry : s2.dry = true := by unfold FibS.dry; rw [hen.way, htd]; rfl
      have heq := (FibS.todo_iff hok).1 htd
      refine Sq.quiet (i := 0) rfl (Want.none rfl) rfl (ltN rfl) (QP.move rfl rfl).read ?_
      refine Sq.eff (i := 1) rfl (Want.none rfl) rfl (ltN rfl) (EF.call rfl ce25 rfl (.cons (by repeat constructor) Takes.nil) (fun F' hle hr => drainedA F' hok)) ?_
      rintro _ _ ⟨_, ⟨rfl, rfl⟩, rfl⟩
      refine J.app ?_
      refine J.boolT (hdry) ?_
      refine Sq.quiet (i := 2) rfl (Want.none rfl) rfl (ltN rfl) (QP.move rfl rfl).read ?_
      refine Sq.quiet (i := 3) rfl (Want.yes rfl rfl rfl rfl) rfl (ltN rfl) (QP.move rfl rfl).read ?_
      refine Sq.eff (i := 4) rfl (Want.yes rfl rfl rfl rfl) rfl (ltN rfl) (EF.call rfl ce27 rfl (.cons (by repeat constructor) Takes.nil) (fun F' hle hr => hasA F' hok)) ?_
      rintro v101 _ ⟨_, rfl, rfl⟩
      refine J.app ?_
      refine Sq.slCase (v := v101) (xs := (ordL s2.H)) (by repeat constructor) (fun a101 c101 hv101 hh101 => ?_)
      subst hv101
      refine Sq.quiet (i := 5) rfl (Want.yes rfl rfl rfl rfl) rfl (ltN rfl) (QP.move rfl rfl).read ?_
      refine Sq.eff (i := 6) rfl (Want.yes rfl rfl rfl rfl) rfl (ltN rfl) (EF.call rfl ce28 rfl (.cons (by repeat constructor) Takes.nil) (fun F' hle hr => wantedA F' hok)) ?_
      rintro v103 _ ⟨_, rfl, rfl⟩
      refine J.app ?_
      refine Sq.slCase (v := v103) (xs := (ordL s2.Wt)) (by repeat constructor) (fun a103 c103 hv103 hh103 => ?_)
      subst hv103
      have hq1 := hok.h.ordL.length
      have hq2 := hok.w.ordL.length
      have hq3 := hok.hl
      have hq4 := hok.wl
      refine Sq.eff (i := 7) rfl (Want.yes rfl rfl rfl rfl) rfl (ltN rfl) (EF.call rfl ce11 rfl (.cons (by repeat constructor) (.cons (by repeat constructor) Takes.nil)) (fun F' hle hr => sameE F' hh101 hh103 (by omega) (by omega))) ?_
      rintro _ _ ⟨_, ⟨rfl, rfl⟩, rfl⟩
      refine J.app ?_
      refine J.boolT (decide_eq_true heq) ?_
      refine Sq.quiet (i := 8) rfl (Want.none rfl) rfl (ltN rfl) (QP.pick_t rfl rfl rfl).read ?_
      refine Sq.quiet (i := 9) rfl (Want.none rfl) rfl (ltN rfl) (QP.move rfl rfl).read ?_
      refine Sq.eff (i := 10) rfl (Want.yes rfl rfl rfl rfl) rfl (ltN rfl) (EF.call rfl ce10 rfl Takes.nil (fun F' hle hr => live_spec F')) ?_
      rintro _ _ ⟨_, ⟨rfl, rfl⟩, rfl⟩
      refine J.app ?_
      refine Sq.quiet (i := 11) rfl (Want.none rfl) rfl (ltN rfl) (QP.pick_t rfl rfl rfl).read ?_
      refine Sq.quiet (i := 12) rfl (Want.none rfl) rfl (ltN rfl) (QP.assign rfl rfl).read ?_
      refine Sq.nil ?_
      refine hk35 _ _ ?_
      refine Run.ret ?_
      exact J.ends (res_tmp rfl rfl) Takes.nil ⟨rfl, rfl⟩
    ·skip
     refine Sq.nil ?_
     refine hk28 _ _ ?_
     refine Run.cond_f rfl ?_
     refine Run.exit rfl ?_
     refine hk24 _ _ ?_
     refine Run.seq fun k36 hk36 => ?_
     refine Run.region ?_
     show Sq _ _ _ [0, 1, 2, 3, 4, 5, 6, 7, 8, 9, 10, 11, 12] _ _ _ _
     have hok := hen.ok (by omega)
     have htd : s2.todo = [] := List.eq_nil_of_length_eq_zero (by have := hen.todo; omega)
     have hdry : s2.dry = true := by unfold FibS.dry; rw [hen.way, htd]; rfl
     have heq := (FibS.todo_iff hok).1 htd
     refine Sq.quiet (i := 0) rfl (Want.none rfl) rfl (ltN rfl) (QP.move rfl rfl).read ?_
     refine Sq.eff (i := 1) rfl (Want.none rfl) rfl (ltN rfl) (EF.call rfl ce25 rfl (.cons (by repeat constructor) Takes.nil) (fun F' hle hr => drainedA F' hok)) ?_
     rintro _ _ ⟨_, ⟨rfl, rfl⟩, rfl⟩
     refine J.app ?_
     refine J.boolT (hdry) ?_
     refine Sq.quiet (i := 2) rfl (Want.none rfl) rfl (ltN rfl) (QP.move rfl rfl).read ?_
     refine Sq.quiet (i := 3) rfl (Want.yes rfl rfl rfl rfl) rfl (ltN rfl) (QP.move rfl rfl).read ?_
     refine Sq.eff (i := 4) rfl (Want.yes rfl rfl rfl rfl) rfl (ltN rfl) (EF.call rfl ce27 rfl (.cons (by repeat constructor) Takes.nil) (fun F' hle hr => hasA F' hok)) ?_
     rintro v101 _ ⟨_, rfl, rfl⟩
     refine J.app ?_
     refine Sq.slCase (v := v101) (xs := (ordL s2.H)) (by repeat constructor) (fun a101 c101 hv101 hh101 => ?_)
     subst hv101
     refine Sq.quiet (i := 5) rfl (Want.yes rfl rfl rfl rfl) rfl (ltN rfl) (QP.move rfl rfl).read ?_
     refine Sq.eff (i := 6) rfl (Want.yes rfl rfl rfl rfl) rfl (ltN rfl) (EF.call rfl ce28 rfl (.cons (by repeat constructor) Takes.nil) (fun F' hle hr => wantedA F' hok)) ?_
     rintro v103 _ ⟨_, rfl, rfl⟩
     refine J.app ?_
     refine Sq.slCase (v := v103) (xs := (ordL s2.Wt)) (by repeat constructor) (fun a103 c103 hv103 hh103 => ?_)
     subst hv103
     have hq1 := hok.h.ordL.length
     have hq2 := hok.w.ordL.length
     have hq3 := hok.hl
     have hq4 := hok.wl
     refine Sq.eff (i := 7) rfl (Want.yes rfl rfl rfl rfl) rfl (ltN rfl) (EF.call rfl ce11 rfl (.cons (by repeat constructor) (.cons (by repeat constructor) Takes.nil)) (fun F' hle hr => sameE F' hh101 hh103 (by omega) (by omega))) ?_
     rintro _ _ ⟨_, ⟨rfl, rfl⟩, rfl⟩
     refine J.app ?_
     refine J.boolT (decide_eq_true heq) ?_
     refine Sq.quiet (i := 8) rfl (Want.none rfl) rfl (ltN rfl) (QP.pick_t rfl rfl rfl).read ?_
     refine Sq.quiet (i := 9) rfl (Want.none rfl) rfl (ltN rfl) (QP.move rfl rfl).read ?_
     refine Sq.eff (i := 10) rfl (Want.yes rfl rfl rfl rfl) rfl (ltN rfl) (EF.call rfl ce10 rfl Takes.nil (fun F' hle hr => live_spec F')) ?_
     rintro _ _ ⟨_, ⟨rfl, rfl⟩, rfl⟩
     refine J.app ?_
     refine Sq.quiet (i := 11) rfl (Want.none rfl) rfl (ltN rfl) (QP.pick_t rfl rfl rfl).read ?_
     refine Sq.quiet (i := 12) rfl (Want.none rfl) rfl (ltN rfl) (QP.assign rfl rfl).read ?_
     refine Sq.nil ?_
     refine hk36 _ _ ?_
     refine Run.ret ?_
     exact J.ends (res_tmp rfl rfl) Takes.nil ⟨rfl, rfl⟩
 ·skip
  refine Sq.quiet (i := 2) rfl (Want.none rfl) rfl (ltN rfl) (QP.not rfl rfl).read ?_
  refine Sq.quiet (i := 3) rfl (Want.none rfl) rfl (ltN rfl) (QP.move rfl rfl).read ?_
  refine Sq.skip (i := 4) rfl (Want.no rfl rfl rfl rfl) rfl (ltN rfl) ?_
  refine Sq.skip (i := 5) rfl (Want.no rfl rfl rfl rfl) rfl (ltN rfl) ?_
  refine Sq.skip (i := 6) rfl (Want.no rfl rfl rfl rfl) rfl (ltN rfl) ?_
  refine Sq.quiet (i := 7) rfl (Want.none rfl) rfl (ltN rfl) (QP.pick_t rfl rfl rfl).read ?_
  refine Sq.nil ?_
  refine hk3 _ _ ?_
  refine Run.cond_t rfl ?_
  refine Run.seq fun k37 hk37 => ?_
  refine Run.region ?_
  show Sq _ _ _ [0, 1] _ _ _ _
  refine Sq.eff (i := 0) rfl (Want.none rfl) rfl (ltN rfl) (EF.call rfl ce10 rfl Takes.nil (fun F' hle hr => live_spec F')) ?_
  rintro _ _ ⟨_, ⟨rfl, rfl⟩, rfl⟩
  refine J.app ?_
  refine Sq.quiet (i := 1) rfl (Want.none rfl) rfl (ltN rfl) (QP.assign rfl rfl).read ?_
  refine Sq.nil ?_
  refine hk37 _ _ ?_
  refine Run.ret ?_
  exact J.ends (res_tmp rfl rfl) Takes.nil ⟨rfl, rfl⟩
end Slb
