/- N4: a part of the proof that a law of this package holds for every input; no condition. -/
import Derived.Test.YtpjndmgdboabfaaN3
namespace Slb
open Go Go.Proofs
set_option maxRecDepth 20000
def lateN : Nat → History → Int → Int → Int → History × Int
  | 0, h, _, a, _ => (h, a)
  | n + 1, h, g, a, now => if 0 < g ∧ h.bits ≠ 0 ∧ a ≤ now then lateN n (missF h) g (a + g) now else (h, a)
/-- A history, the hellos missed that did not come until now. -/
def lateF (h : History) (g a now : Int) : History × Int := lateN (now + 1 - a).toNat h g a now
theorem lateN_big {g now : Int} : ∀ (n m : Nat) (h : History) (a : Int), (now + 1 - a).toNat ≤ m → m ≤ n → lateN n h g a now = lateN m h g a now := by
  intro n
  induction n with
  | zero => intro m h a h1 h2; obtain rfl : m = 0 := by omega
            rfl
  | succ n ih =>
    intro m h a h1 h2
    cases m with
    | zero =>
      show (if 0 < g ∧ h.bits ≠ 0 ∧ a ≤ now then _ else _) = (h, a)
      rw [if_neg (by rintro ⟨_, _, h3⟩; omega)]
    | succ m =>
      show (if 0 < g ∧ h.bits ≠ 0 ∧ a ≤ now then lateN n (missF h) g (a + g) now else (h, a)) = (if 0 < g ∧ h.bits ≠ 0 ∧ a ≤ now then lateN m (missF h) g (a + g) now else (h, a))
      split
      · rename_i h3
        exact ih m _ _ (by omega) (by omega)
      · rfl
theorem lateF_step (h : History) (g a now : Int) : lateF h g a now = if 0 < g ∧ h.bits ≠ 0 ∧ a ≤ now then lateF (missF h) g (a + g) now else (h, a) := by
  unfold lateF
  cases e : (now + 1 - a).toNat with
  | zero => rw [if_neg (by rintro ⟨_, _, h3⟩; omega)]; rfl
  | succ n =>
    show (if 0 < g ∧ h.bits ≠ 0 ∧ a ≤ now then lateN n (missF h) g (a + g) now else (h, a)) = _
    split
    · exact lateN_big n _ _ _ (Nat.le_refl _) (by omega)
    · rfl
theorem missF_bits {h : History} (hb : hBits h) : hBits (missF h) := by
  unfold missF hBits at *
  split
  · show 0 ≤ h.bits / 2 ∧ h.bits / 2 ≤ 65535
    omega
  · exact hb
/-- A row, its hellos to everybody missed. -/
def lateM (now : Int) (s : Neighbour) : Neighbour := { s with multi := (lateF s.multi s.multiGap s.multiAt now).1, multiAt := (lateF s.multi s.multiGap s.multiAt now).2 }
def lateU (now : Int) (s : Neighbour) : Neighbour := { s with uni := (lateF s.uni s.uniGap s.uniAt now).1, uniAt := (lateF s.uni s.uniGap s.uniAt now).2 }
def txR (now : Int) (s : Neighbour) : Neighbour := if s.txAt ≤ now then { s with tx := 65535 } else s
def tickR (now : Int) (s : Neighbour) : Neighbour := txR now (lateU now (lateM now s))
def goneN (now : Int) (s : Neighbour) : Bool := decide (or16 (tickR now s).multi.bits (tickR now s).uni.bits = 0)
def tickG (now : Int) (s : Neighbour) : Option Neighbour := if goneN now s then none else some (tickR now s)
/-- What of a row's numbers the code leans on. -/
structure RowOk (s : Neighbour) : Prop where
  mg : 0 ≤ s.multiGap ∧ s.multiGap ≤ 655350
  ug : 0 ≤ s.uniGap ∧ s.uniGap ≤ 655350
  ma : 0 ≤ s.multiAt
  ua : 0 ≤ s.uniAt
def dropG (xs : List Int) (s : Neighbour) : Option Neighbour := if s.if_.val ∈ xs then none else some s
theorem fm_succ {α β : Type} (p : α → Bool) (f : α → β) {ys : List α} {i : Nat} {s : α} (h : ys[i]? = some s) : ((ys.take (i + 1)).filter p).map f = ((ys.take i).filter p).map f ++ (if p s then [f s] else []) := by
  rw [filter_succ p h, List.map_append]
  cases p s <;> simp

theorem lateM0 (F : Fr) {c : Nat} {s : Neighbour} (g now : Int) (hn1 : now ≤ 2305843009213693952) (hg : 0 ≤ g ∧ g ≤ 655350) (ha : 0 ≤ s.multiAt) : Spec Try.prog 27 #[.pointer (some ⟨c, 17, none⟩), .int .i64 g, .pointer (some ⟨c, 25, none⟩), .int .i64 now] [blk c (Neighbour.enc s) 54] F (fun v S => S = [blk c (Neighbour.enc { s with multi := (lateF s.multi g s.multiAt now).1, multiAt := (lateF s.multi g s.multiAt now).2 }) 54]) := by
 refine Spec.intro (N := 36) (args := [.pointer (some ⟨c, 17, none⟩), .int .i64 g, .pointer (some ⟨c, 25, none⟩), .int .i64 now]) Try.func27 rfl rfl (by simp) ?_
 refine Run.block ?_
 refine Run.loop2 (fun (h : History) (a : Int) => lateF h g a now = lateF s.multi g s.multiAt now ∧ 0 ≤ a) (fun h a => .cons 0 (.pointer (some ⟨c, 17, none⟩)) (.cons 1 (.int .i64 g) (.cons 2 (.pointer (some ⟨c, 25, none⟩)) (.cons 3 (.int .i64 now) (.nil))))) (fun h a => [blk c (Neighbour.enc { s with multi := h, multiAt := a }) 54]) (fun h a => (now + 1 - a).toNat) (s.multi) (s.multiAt) (⟨rfl, ha⟩) ?_ ?_
 ·exact fun _ j => J.envJ (J.keep (.cons (by repeat constructor) Takes.nil) j) ⟨rfl, rfl, rfl, rfl, trivial⟩
 rintro h a ⟨hL, ha0⟩ kl1 hl1
 refine Run.seq fun k2 hk2 => ?_
 refine Run.seq fun k3 hk3 => ?_
 refine Run.region ?_
 show Sq _ _ _ [0, 1, 2, 3, 4, 5, 6, 7, 8, 9, 10, 11, 12, 13, 14, 15] _ _ _ _
 refine Sq.quiet (i := 0) rfl (Want.none rfl) rfl (ltN rfl) (QP.move rfl rfl).read ?_
 have e1 : ({ s with multi := h, multiAt := a } : Neighbour).multi = h := rfl
 have e2 : ({ s with multi := h, multiAt := a } : Neighbour).multiAt = a := rfl
 refine Sq.quiet (i := 1) rfl (Want.none rfl) rfl (ltN rfl) (QP.gtr rfl rfl rfl).read ?_
 refine J.caseD (fun c9 => ?_) (fun c9 => ?_)
 ·skip
  refine Sq.quiet (i := 2) rfl (Want.none rfl) rfl (ltN rfl) (QP.move rfl rfl).read ?_
  refine Sq.quiet (i := 3) rfl (Want.yes rfl rfl rfl rfl) rfl (ltN rfl) (QP.move rfl rfl).read ?_
  refine Sq.quiet (i := 4) rfl (Want.yes rfl rfl rfl rfl) rfl (ltN rfl) (QP.nilCheck rfl rfl).read ?_
  refine Sq.quiet (i := 5) rfl (Want.yes rfl rfl rfl rfl) rfl (ltN rfl) (QP.fieldAddr rfl rfl f51_0).read ?_
  refine Sq.quiet (i := 6) rfl (Want.yes rfl rfl rfl rfl) rfl (ltN rfl) (QR.load1 rfl rfl g30 ((Neighbour.sub_multi _).trans (History.sub_bits _))) ?_
  refine Sq.quiet (i := 7) rfl (Want.yes rfl rfl rfl rfl) rfl (ltN rfl) (QP.neq rfl rfl rfl).read ?_
  refine J.caseD (fun c15 => ?_) (fun c15 => ?_)
  ·skip
   refine Sq.quiet (i := 8) rfl (Want.none rfl) rfl (ltN rfl) (QP.pick_t rfl rfl rfl).read ?_
   refine Sq.quiet (i := 9) rfl (Want.none rfl) rfl (ltN rfl) (QP.move rfl rfl).read ?_
   refine Sq.quiet (i := 10) rfl (Want.yes rfl rfl rfl rfl) rfl (ltN rfl) (QP.move rfl rfl).read ?_
   refine Sq.quiet (i := 11) rfl (Want.yes rfl rfl rfl rfl) rfl (ltN rfl) (QP.nilCheck rfl rfl).read ?_
   refine Sq.quiet (i := 12) rfl (Want.yes rfl rfl rfl rfl) rfl (ltN rfl) (QR.load1 rfl rfl g3 (Neighbour.sub_multiAt _)) ?_
   refine Sq.quiet (i := 13) rfl (Want.yes rfl rfl rfl rfl) rfl (ltN rfl) (QP.move rfl rfl).read ?_
   refine Sq.quiet (i := 14) rfl (Want.yes rfl rfl rfl rfl) rfl (ltN rfl) (QP.leq rfl rfl rfl).read ?_
   refine J.caseD (fun c22 => ?_) (fun c22 => ?_)
   ·skip
    refine Sq.quiet (i := 15) rfl (Want.none rfl) rfl (ltN rfl) (QP.pick_t rfl rfl rfl).read ?_
    refine Sq.nil ?_
    refine hk3 _ _ ?_
    refine Run.cond_t rfl ?_
    refine Run.skip ?_
    refine hk2 _ _ ?_
    refine Run.block ?_
    refine Run.seq fun k4 hk4 => ?_
    refine Run.region ?_
    show Sq _ _ _ [0, 1, 2, 3, 4, 5, 6] _ _ _ _
    refine Sq.quiet (i := 0) rfl (Want.none rfl) rfl (ltN rfl) (QP.move rfl rfl).read ?_
    refine Sq.quiet (i := 1) rfl (Want.none rfl) rfl (ltN rfl) (QP.move rfl rfl).read ?_
    refine Sq.quiet (i := 2) rfl (Want.none rfl) rfl (ltN rfl) (QP.nilCheck rfl rfl).read ?_
    refine Sq.quiet (i := 3) rfl (Want.none rfl) rfl (ltN rfl) (QR.load rfl rfl g51 (Neighbour.sub_multi _)) ?_
    refine Sq.eff (i := 4) rfl (Want.none rfl) rfl (ltN rfl) (EF.call rfl ce47 rfl Takes.nil (fun F' hle hr => miss_spec F' h)) ?_
    rintro _ _ ⟨_, ⟨rfl, rfl⟩, rfl⟩
    refine J.app ?_
    refine Sq.quiet (i := 5) rfl (Want.none rfl) rfl (ltN rfl) (QP.nilCheck rfl rfl).read ?_
    refine Sq.act (i := 6) rfl (Want.none rfl) rfl (EF.storeA rfl rfl rfl z51 (Neighbour.set_multi _ _) (History.enc_cell _)) ?_
    rintro _ _ rfl
    refine Sq.nil ?_
    refine hk4 _ _ ?_
    refine Run.region ?_
    show Sq _ _ _ [0, 1, 2, 3, 4, 5, 6] _ _ _ _
    refine Sq.quiet (i := 0) rfl (Want.none rfl) rfl (ltN rfl) (QP.move rfl rfl).read ?_
    refine Sq.quiet (i := 1) rfl (Want.none rfl) rfl (ltN rfl) (QP.nilCheck rfl rfl).read ?_
    refine Sq.quiet (i := 2) rfl (Want.none rfl) rfl (ltN rfl) (QR.load1 rfl rfl g3 (Neighbour.sub_multiAt _)) ?_
    refine Sq.quiet (i := 3) rfl (Want.none rfl) rfl (ltN rfl) (QP.move rfl rfl).read ?_
    refine Sq.quiet (i := 4) rfl (Want.none rfl) rfl (ltN rfl) (QP.add64 rfl rfl rfl (by first | omega | (simp <;> omega)) (by first | omega | (simp <;> omega))).read ?_
    refine Sq.quiet (i := 5) rfl (Want.none rfl) rfl (ltN rfl) (QP.nilCheck rfl rfl).read ?_
    refine Sq.act (i := 6) rfl (Want.none rfl) rfl (EF.store rfl rfl rfl z3 (Neighbour.set_multiAt _ _) (cell_one rfl)) ?_
    rintro _ _ rfl
    refine Sq.nil ?_
    exact J.envJ (J.keep (.cons (by repeat constructor) Takes.nil) (hl1 (missF h) (a + g) (⟨by rw [← hL]; rw [lateF_step h, if_pos ⟨c9, c15, c22⟩], by omega⟩) (by omega))) ⟨rfl, rfl, rfl, rfl, trivial⟩
   ·skip
    refine Sq.quiet (i := 15) rfl (Want.none rfl) rfl (ltN rfl) (QP.pick_t rfl rfl rfl).read ?_
    refine Sq.nil ?_
    refine hk3 _ _ ?_
    refine Run.cond_f rfl ?_
    refine Run.exit rfl ?_
    have hend : lateF h g a now = (h, a) := by rw [lateF_step, if_neg (fun hh => c22 hh.2.2)]
    exact J.ends (res_none rfl) (.cons (by repeat constructor) Takes.nil) (by rw [← hL, hend])
  ·skip
   refine Sq.quiet (i := 8) rfl (Want.none rfl) rfl (ltN rfl) (QP.pick_t rfl rfl rfl).read ?_
   refine Sq.quiet (i := 9) rfl (Want.none rfl) rfl (ltN rfl) (QP.move rfl rfl).read ?_
   refine Sq.skip (i := 10) rfl (Want.no rfl rfl rfl rfl) rfl (ltN rfl) ?_
   refine Sq.skip (i := 11) rfl (Want.no rfl rfl rfl rfl) rfl (ltN rfl) ?_
   refine Sq.skip (i := 12) rfl (Want.no rfl rfl rfl rfl) rfl (ltN rfl) ?_
   refine Sq.skip (i := 13) rfl (Want.no rfl rfl rfl rfl) rfl (ltN rfl) ?_
   refine Sq.skip (i := 14) rfl (Want.no rfl rfl rfl rfl) rfl (ltN rfl) ?_
   refine Sq.quiet (i := 15) rfl (Want.none rfl) rfl (ltN rfl) (QP.pick_f rfl rfl rfl).read ?_
   refine Sq.nil ?_
   refine hk3 _ _ ?_
   refine Run.cond_f rfl ?_
   refine Run.exit rfl ?_
   have hend : lateF h g a now = (h, a) := by rw [lateF_step, if_neg (fun hh => c15 hh.2.1)]
   exact J.ends (res_none rfl) (.cons (by repeat constructor) Takes.nil) (by rw [← hL, hend])
 ·skip
  refine Sq.quiet (i := 2) rfl (Want.none rfl) rfl (ltN rfl) (QP.move rfl rfl).read ?_
  refine Sq.skip (i := 3) rfl (Want.no rfl rfl rfl rfl) rfl (ltN rfl) ?_
  refine Sq.skip (i := 4) rfl (Want.no rfl rfl rfl rfl) rfl (ltN rfl) ?_
  refine Sq.skip (i := 5) rfl (Want.no rfl rfl rfl rfl) rfl (ltN rfl) ?_
  refine Sq.skip (i := 6) rfl (Want.no rfl rfl rfl rfl) rfl (ltN rfl) ?_
  refine Sq.skip (i := 7) rfl (Want.no rfl rfl rfl rfl) rfl (ltN rfl) ?_
  refine Sq.quiet (i := 8) rfl (Want.none rfl) rfl (ltN rfl) (QP.pick_f rfl rfl rfl).read ?_
  refine Sq.quiet (i := 9) rfl (Want.none rfl) rfl (ltN rfl) (QP.move rfl rfl).read ?_
  refine Sq.skip (i := 10) rfl (Want.no rfl rfl rfl rfl) rfl (ltN rfl) ?_
  refine Sq.skip (i := 11) rfl (Want.no rfl rfl rfl rfl) rfl (ltN rfl) ?_
  refine Sq.skip (i := 12) rfl (Want.no rfl rfl rfl rfl) rfl (ltN rfl) ?_
  refine Sq.skip (i := 13) rfl (Want.no rfl rfl rfl rfl) rfl (ltN rfl) ?_
  refine Sq.skip (i := 14) rfl (Want.no rfl rfl rfl rfl) rfl (ltN rfl) ?_
  refine Sq.quiet (i := 15) rfl (Want.none rfl) rfl (ltN rfl) (QP.pick_f rfl rfl rfl).read ?_
  refine Sq.nil ?_
  refine hk3 _ _ ?_
  refine Run.cond_f rfl ?_
  refine Run.exit rfl ?_
  have hend : lateF h g a now = (h, a) := by rw [lateF_step, if_neg (fun hh => c9 hh.1)]
  exact J.ends (res_none rfl) (.cons (by repeat constructor) Takes.nil) (by rw [← hL, hend])

theorem lateU0 (F : Fr) {c : Nat} {s : Neighbour} (g now : Int) (hn1 : now ≤ 2305843009213693952) (hg : 0 ≤ g ∧ g ≤ 655350) (ha : 0 ≤ s.uniAt) : Spec Try.prog 27 #[.pointer (some ⟨c, 20, none⟩), .int .i64 g, .pointer (some ⟨c, 26, none⟩), .int .i64 now] [blk c (Neighbour.enc s) 54] F (fun v S => S = [blk c (Neighbour.enc { s with uni := (lateF s.uni g s.uniAt now).1, uniAt := (lateF s.uni g s.uniAt now).2 }) 54]) := by
 refine Spec.intro (N := 36) (args := [.pointer (some ⟨c, 20, none⟩), .int .i64 g, .pointer (some ⟨c, 26, none⟩), .int .i64 now]) Try.func27 rfl rfl (by simp) ?_
 refine Run.block ?_
 refine Run.loop2 (fun (h : History) (a : Int) => lateF h g a now = lateF s.uni g s.uniAt now ∧ 0 ≤ a) (fun h a => .cons 0 (.pointer (some ⟨c, 20, none⟩)) (.cons 1 (.int .i64 g) (.cons 2 (.pointer (some ⟨c, 26, none⟩)) (.cons 3 (.int .i64 now) (.nil))))) (fun h a => [blk c (Neighbour.enc { s with uni := h, uniAt := a }) 54]) (fun h a => (now + 1 - a).toNat) (s.uni) (s.uniAt) (⟨rfl, ha⟩) ?_ ?_
 ·exact fun _ j => J.envJ (J.keep (.cons (by repeat constructor) Takes.nil) j) ⟨rfl, rfl, rfl, rfl, trivial⟩
 rintro h a ⟨hL, ha0⟩ kl1 hl1
 refine Run.seq fun k2 hk2 => ?_
 refine Run.seq fun k3 hk3 => ?_
 refine Run.region ?_
 show Sq _ _ _ [0, 1, 2, 3, 4, 5, 6, 7, 8, 9, 10, 11, 12, 13, 14, 15] _ _ _ _
 refine Sq.quiet (i := 0) rfl (Want.none rfl) rfl (ltN rfl) (QP.move rfl rfl).read ?_
 have e1 : ({ s with uni := h, uniAt := a } : Neighbour).uni = h := rfl
 have e2 : ({ s with uni := h, uniAt := a } : Neighbour).uniAt = a := rfl
 refine Sq.quiet (i := 1) rfl (Want.none rfl) rfl (ltN rfl) (QP.gtr rfl rfl rfl).read ?_
 refine J.caseD (fun c9 => ?_) (fun c9 => ?_)
 ·skip
  refine Sq.quiet (i := 2) rfl (Want.none rfl) rfl (ltN rfl) (QP.move rfl rfl).read ?_
  refine Sq.quiet (i := 3) rfl (Want.yes rfl rfl rfl rfl) rfl (ltN rfl) (QP.move rfl rfl).read ?_
  refine Sq.quiet (i := 4) rfl (Want.yes rfl rfl rfl rfl) rfl (ltN rfl) (QP.nilCheck rfl rfl).read ?_
  refine Sq.quiet (i := 5) rfl (Want.yes rfl rfl rfl rfl) rfl (ltN rfl) (QP.fieldAddr rfl rfl f51_0).read ?_
  refine Sq.quiet (i := 6) rfl (Want.yes rfl rfl rfl rfl) rfl (ltN rfl) (QR.load1 rfl rfl g30 ((Neighbour.sub_uni _).trans (History.sub_bits _))) ?_
  refine Sq.quiet (i := 7) rfl (Want.yes rfl rfl rfl rfl) rfl (ltN rfl) (QP.neq rfl rfl rfl).read ?_
  refine J.caseD (fun c15 => ?_) (fun c15 => ?_)
  ·skip
   refine Sq.quiet (i := 8) rfl (Want.none rfl) rfl (ltN rfl) (QP.pick_t rfl rfl rfl).read ?_
   refine Sq.quiet (i := 9) rfl (Want.none rfl) rfl (ltN rfl) (QP.move rfl rfl).read ?_
   refine Sq.quiet (i := 10) rfl (Want.yes rfl rfl rfl rfl) rfl (ltN rfl) (QP.move rfl rfl).read ?_
   refine Sq.quiet (i := 11) rfl (Want.yes rfl rfl rfl rfl) rfl (ltN rfl) (QP.nilCheck rfl rfl).read ?_
   refine Sq.quiet (i := 12) rfl (Want.yes rfl rfl rfl rfl) rfl (ltN rfl) (QR.load1 rfl rfl g3 (Neighbour.sub_uniAt _)) ?_
   refine Sq.quiet (i := 13) rfl (Want.yes rfl rfl rfl rfl) rfl (ltN rfl) (QP.move rfl rfl).read ?_
   refine Sq.quiet (i := 14) rfl (Want.yes rfl rfl rfl rfl) rfl (ltN rfl) (QP.leq rfl rfl rfl).read ?_
   refine J.caseD (fun c22 => ?_) (fun c22 => ?_)
   ·skip
    refine Sq.quiet (i := 15) rfl (Want.none rfl) rfl (ltN rfl) (QP.pick_t rfl rfl rfl).read ?_
    refine Sq.nil ?_
    refine hk3 _ _ ?_
    refine Run.cond_t rfl ?_
    refine Run.skip ?_
    refine hk2 _ _ ?_
    refine Run.block ?_
    refine Run.seq fun k4 hk4 => ?_
    refine Run.region ?_
    show Sq _ _ _ [0, 1, 2, 3, 4, 5, 6] _ _ _ _
    refine Sq.quiet (i := 0) rfl (Want.none rfl) rfl (ltN rfl) (QP.move rfl rfl).read ?_
    refine Sq.quiet (i := 1) rfl (Want.none rfl) rfl (ltN rfl) (QP.move rfl rfl).read ?_
    refine Sq.quiet (i := 2) rfl (Want.none rfl) rfl (ltN rfl) (QP.nilCheck rfl rfl).read ?_
    refine Sq.quiet (i := 3) rfl (Want.none rfl) rfl (ltN rfl) (QR.load rfl rfl g51 (Neighbour.sub_uni _)) ?_
    refine Sq.eff (i := 4) rfl (Want.none rfl) rfl (ltN rfl) (EF.call rfl ce47 rfl Takes.nil (fun F' hle hr => miss_spec F' h)) ?_
    rintro _ _ ⟨_, ⟨rfl, rfl⟩, rfl⟩
    refine J.app ?_
    refine Sq.quiet (i := 5) rfl (Want.none rfl) rfl (ltN rfl) (QP.nilCheck rfl rfl).read ?_
    refine Sq.act (i := 6) rfl (Want.none rfl) rfl (EF.storeA rfl rfl rfl z51 (Neighbour.set_uni _ _) (History.enc_cell _)) ?_
    rintro _ _ rfl
    refine Sq.nil ?_
    refine hk4 _ _ ?_
    refine Run.region ?_
    show Sq _ _ _ [0, 1, 2, 3, 4, 5, 6] _ _ _ _
    refine Sq.quiet (i := 0) rfl (Want.none rfl) rfl (ltN rfl) (QP.move rfl rfl).read ?_
    refine Sq.quiet (i := 1) rfl (Want.none rfl) rfl (ltN rfl) (QP.nilCheck rfl rfl).read ?_
    refine Sq.quiet (i := 2) rfl (Want.none rfl) rfl (ltN rfl) (QR.load1 rfl rfl g3 (Neighbour.sub_uniAt _)) ?_
    refine Sq.quiet (i := 3) rfl (Want.none rfl) rfl (ltN rfl) (QP.move rfl rfl).read ?_
    refine Sq.quiet (i := 4) rfl (Want.none rfl) rfl (ltN rfl) (QP.add64 rfl rfl rfl (by first | omega | (simp <;> omega)) (by first | omega | (simp <;> omega))).read ?_
    refine Sq.quiet (i := 5) rfl (Want.none rfl) rfl (ltN rfl) (QP.nilCheck rfl rfl).read ?_
    refine Sq.act (i := 6) rfl (Want.none rfl) rfl (EF.store rfl rfl rfl z3 (Neighbour.set_uniAt _ _) (cell_one rfl)) ?_
    rintro _ _ rfl
    refine Sq.nil ?_
    exact J.envJ (J.keep (.cons (by repeat constructor) Takes.nil) (hl1 (missF h) (a + g) (⟨by rw [← hL]; rw [lateF_step h, if_pos ⟨c9, c15, c22⟩], by omega⟩) (by omega))) ⟨rfl, rfl, rfl, rfl, trivial⟩
   ·skip
    refine Sq.quiet (i := 15) rfl (Want.none rfl) rfl (ltN rfl) (QP.pick_t rfl rfl rfl).read ?_
    refine Sq.nil ?_
    refine hk3 _ _ ?_
    refine Run.cond_f rfl ?_
    refine Run.exit rfl ?_
    have hend : lateF h g a now = (h, a) := by rw [lateF_step, if_neg (fun hh => c22 hh.2.2)]
    exact J.ends (res_none rfl) (.cons (by repeat constructor) Takes.nil) (by rw [← hL, hend])
  ·skip
   refine Sq.quiet (i := 8) rfl (Want.none rfl) rfl (ltN rfl) (QP.pick_t rfl rfl rfl).read ?_
   refine Sq.quiet (i := 9) rfl (Want.none rfl) rfl (ltN rfl) (QP.move rfl rfl).read ?_
   refine Sq.skip (i := 10) rfl (Want.no rfl rfl rfl rfl) rfl (ltN rfl) ?_
   refine Sq.skip (i := 11) rfl (Want.no rfl rfl rfl rfl) rfl (ltN rfl) ?_
   refine Sq.skip (i := 12) rfl (Want.no rfl rfl rfl rfl) rfl (ltN rfl) ?_
   refine Sq.skip (i := 13) rfl (Want.no rfl rfl rfl rfl) rfl (ltN rfl) ?_
   refine Sq.skip (i := 14) rfl (Want.no rfl rfl rfl rfl) rfl (ltN rfl) ?_
   refine Sq.quiet (i := 15) rfl (Want.none rfl) rfl (ltN rfl) (QP.pick_f rfl rfl rfl).read ?_
   refine Sq.nil ?_
   refine hk3 _ _ ?_
   refine Run.cond_f rfl ?_
   refine Run.exit rfl ?_
   have hend : lateF h g a now = (h, a) := by rw [lateF_step, if_neg (fun hh => c15 hh.2.1)]
   exact J.ends (res_none rfl) (.cons (by repeat constructor) Takes.nil) (by rw [← hL, hend])
 ·skip
  refine Sq.quiet (i := 2) rfl (Want.none rfl) rfl (ltN rfl) (QP.move rfl rfl).read ?_
  refine Sq.skip (i := 3) rfl (Want.no rfl rfl rfl rfl) rfl (ltN rfl) ?_
  refine Sq.skip (i := 4) rfl (Want.no rfl rfl rfl rfl) rfl (ltN rfl) ?_
  refine Sq.skip (i := 5) rfl (Want.no rfl rfl rfl rfl) rfl (ltN rfl) ?_
  refine Sq.skip (i := 6) rfl (Want.no rfl rfl rfl rfl) rfl (ltN rfl) ?_
  refine Sq.skip (i := 7) rfl (Want.no rfl rfl rfl rfl) rfl (ltN rfl) ?_
  refine Sq.quiet (i := 8) rfl (Want.none rfl) rfl (ltN rfl) (QP.pick_f rfl rfl rfl).read ?_
  refine Sq.quiet (i := 9) rfl (Want.none rfl) rfl (ltN rfl) (QP.move rfl rfl).read ?_
  refine Sq.skip (i := 10) rfl (Want.no rfl rfl rfl rfl) rfl (ltN rfl) ?_
  refine Sq.skip (i := 11) rfl (Want.no rfl rfl rfl rfl) rfl (ltN rfl) ?_
  refine Sq.skip (i := 12) rfl (Want.no rfl rfl rfl rfl) rfl (ltN rfl) ?_
  refine Sq.skip (i := 13) rfl (Want.no rfl rfl rfl rfl) rfl (ltN rfl) ?_
  refine Sq.skip (i := 14) rfl (Want.no rfl rfl rfl rfl) rfl (ltN rfl) ?_
  refine Sq.quiet (i := 15) rfl (Want.none rfl) rfl (ltN rfl) (QP.pick_f rfl rfl rfl).read ?_
  refine Sq.nil ?_
  refine hk3 _ _ ?_
  refine Run.cond_f rfl ?_
  refine Run.exit rfl ?_
  have hend : lateF h g a now = (h, a) := by rw [lateF_step, if_neg (fun hh => c9 hh.1)]
  exact J.ends (res_none rfl) (.cons (by repeat constructor) Takes.nil) (by rw [← hL, hend])
end Slb
