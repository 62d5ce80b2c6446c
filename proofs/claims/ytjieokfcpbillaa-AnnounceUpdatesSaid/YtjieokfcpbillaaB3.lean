/- Base 3: the judgement of a walk, its rules for control, regions, calls. -/
import Derived.Test.YtjieokfcpbillaaB2
namespace Slb
open Go

/-- In each state that is so, Φ. -/
def J (N : Nat) (G : Env) (S : List HProp) (F : Fr) (Φ : Act → World → Prop) : Prop := ∀ a w, St N G S F a w → Φ a w

section structural
variable {N : Nat} {G : Env} {S S' : List HProp} {F : Fr} {Φ : Act → World → Prop}
theorem J.env {G' : Env} (h : G.agree G') (j : J N G' S F Φ) : J N G S F Φ := fun a w s => j a w (s.env h)
theorem J.conseq (h : ∀ w, Sat S F w → Sat S' F w) (j : J N G S' F Φ) : J N G S F Φ := fun a w s => j a w (s.world (h w s.sat))
theorem J.conseqE {α : Type} {T : α → List HProp} (h : ∀ w, Sat S F w → ∃ x, Sat (T x) F w) (j : ∀ x, J N G (T x) F Φ) : J N G S F Φ :=
  fun a w s => let ⟨x, hx⟩ := h w s.sat; j x a w (s.world hx)
theorem J.mono {Ψ : Act → World → Prop} (j : J N G S F Φ) (h : ∀ a w, Φ a w → Ψ a w) : J N G S F Ψ := fun a w s => h a w (j a w s)

/-- A lies in S, and S1 is the rest. -/
inductive Pick : List HProp → HProp → List HProp → Prop where
  | head {A : HProp} {l : List HProp} : Pick (A :: l) A l
  | tail {A B : HProp} {l m : List HProp} (h : Pick l A m) : Pick (B :: l) A (B :: m)
theorem Pick.perm {A : HProp} {l m : List HProp} (h : Pick l A m) : l.Perm (A :: m) := by
  induction h with
  | head => exact List.Perm.refl _
  | tail _ ih => exact (List.Perm.cons _ ih).trans (List.Perm.swap _ _ _)
/-- All of a list, one after the other, and the rest. -/
inductive Takes : List HProp → List HProp → List HProp → Prop where
  | nil {l : List HProp} : Takes l [] l
  | cons {A : HProp} {l l1 m r : List HProp} (h : Pick l A l1) (t : Takes l1 m r) : Takes l (A :: m) r
theorem Takes.perm {l m r : List HProp} (h : Takes l m r) : l.Perm (m ++ r) := by
  induction h with
  | nil => exact List.Perm.refl _
  | cons h _ ih => exact h.perm.trans (List.Perm.cons _ ih)
/-- The same list with another thing in one place. -/
inductive Upd : List HProp → HProp → HProp → List HProp → Prop where
  | head {A B : HProp} {l : List HProp} : Upd (A :: l) A B (B :: l)
  | tail {A B C : HProp} {l m : List HProp} (h : Upd l A B m) : Upd (C :: l) A B (C :: m)
theorem Upd.perm {A B : HProp} {l m : List HProp} (h : Upd l A B m) : ∃ r, l.Perm (A :: r) ∧ m.Perm (B :: r) := by
  induction h with
  | head => exact ⟨_, List.Perm.refl _, List.Perm.refl _⟩
  | @tail A B C l m _ ih =>
    obtain ⟨r, h1, h2⟩ := ih
    exact ⟨C :: r, (List.Perm.cons _ h1).trans (List.Perm.swap _ _ _), (List.Perm.cons _ h2).trans (List.Perm.swap _ _ _)⟩
theorem Sat.takes {m r : List HProp} {w : World} (t : Takes S m r) (s : Sat S F w) : Sat (m ++ r) F w := s.perm t.perm
theorem Sat.dropR {m r : List HProp} {w : World} (s : Sat (m ++ r) F w) : Sat m F w :=
  Sat.mono (S := m ++ r) (fun h e => by
    obtain ⟨h1, h2, d, rfl, b, _⟩ := stars_append.1 e
    exact ⟨h1, PH.le_union_left, b⟩) s

theorem J.take {m r : List HProp} (t : Takes S m r) (j : J N G (m ++ r) F Φ) : J N G S F Φ := j.conseq fun _ s => s.takes t
theorem J.keep {m r : List HProp} (t : Takes S m r) (j : J N G m F Φ) : J N G S F Φ := j.conseq fun _ s => (s.takes t).dropR
/-- One atom is opened. -/
theorem J.openE {α : Type} {A : HProp} {r : List HProp} {T : α → List HProp} (t : Pick S A r) (h : ∀ h, A h → ∃ x, stars (T x) h) (j : ∀ x, J N G (T x ++ r) F Φ) : J N G S F Φ :=
  J.conseqE (T := fun x => T x ++ r) (fun w s => by
    obtain ⟨a, b, c, d, k, ⟨h1, h2, e1, e2, e3, e4⟩, f, g⟩ := s.perm t.perm
    obtain ⟨x, hx⟩ := h h1 e3
    exact ⟨x, a, b, c, d, k, stars_append.2 ⟨h1, h2, e1, e2, hx, e4⟩, f, g⟩) j
theorem J.ex {α : Type} {A : α → HProp} {r : List HProp} (t : Pick S (Slb.ex A) r) (j : ∀ x, J N G (A x :: r) F Φ) : J N G S F Φ :=
  J.conseqE (T := fun x => A x :: r) (fun _ s => (s.perm t.perm).ex) j
theorem J.fact {p : Prop} {r : List HProp} (t : Pick S (Slb.fact p) r) (j : p → J N G r F Φ) : J N G S F Φ :=
  fun a w s => let ⟨hp, s'⟩ := (s.sat.perm t.perm).fact; j hp a w (s.world s')
/-- Some atoms are closed to one. -/
theorem J.close {A : HProp} {m r : List HProp} (t : Takes S m r) (h : ∀ h, stars m h → A h) (j : J N G (A :: r) F Φ) : J N G S F Φ :=
  j.conseq fun w s => by
    obtain ⟨a, b, c, d, k, e, f, g⟩ := s.takes t
    obtain ⟨h1, h2, e1, e2, e3, e4⟩ := stars_append.1 e
    exact ⟨a, b, c, d, k, ⟨h1, h2, e1, e2, h _ e3, e4⟩, f, g⟩
end structural

/-- Where a piece of code goes. -/
structure Posts where
  n : Act → World → Prop
  r : Act → World → Prop
  x : List (Nat × (Act → World → Prop))
def findX (id : Nat) : List (Nat × (Act → World → Prop)) → Option (Act → World → Prop)
  | [] => none
  | p :: l => bif Nat.beq p.1 id then some p.2 else findX id l
def Posts.q (K : Posts) : Exit → Act → World → Prop
  | .normal => K.n
  | .ret => K.r
  | .exit id => (findX id K.x).getD fun _ _ => False
  | _ => fun _ _ => False

def Posts.setN (K : Posts) (k : Act → World → Prop) : Posts := ⟨k, K.r, K.x⟩
def Posts.pushX (K : Posts) (id : Nat) : Posts := ⟨K.n, K.r, (id, K.n) :: K.x⟩

/-- The code's walk. -/
def Run (P : Program) (N : Nat) (c : Code) (K : Posts) (G : Env) (S : List HProp) (F : Fr) : Prop := J N G S F (c.wp P K.q)

section control
variable {P : Program} {N : Nat} {K : Posts} {G : Env} {S : List HProp} {F : Fr}
theorem Run.skip (h : J N G S F K.n) : Run P N .skip K G S F := fun a w s => wp_skip (h a w s)
theorem Run.ret (h : J N G S F K.r) : Run P N .ret K G S F := fun a w s => wp_ret (h a w s)
theorem Run.exit {id : Nat} {X : Act → World → Prop} (hx : findX id K.x = some X) (h : J N G S F X) : Run P N (.exit id) K G S F :=
  fun a w s => wp_exit (by show (findX id K.x).getD (fun _ _ => False) a w; rw [hx]; exact h a w s)
theorem Run.seq {x y : Code} (h : ∀ k : Act → World → Prop, (∀ G S, Run P N y K G S F → J N G S F k) → Run P N x (K.setN k) G S F) : Run P N (.seq x y) K G S F :=
  fun a w s => wp_seq_k fun k hk => wp_mono (h k (fun G' S' r a' w' s' => hk a' w' (r a' w' s')) a w s) fun e a' w' q => by
    cases e <;> exact q
theorem Run.cond {c : Operand} {x y : Code} {b : Bool} (hc : opv G c = some (.bool b)) (ht : b = true → Run P N x K G S F) (hf : b = false → Run P N y K G S F) : Run P N (.cond c x y) K G S F :=
  fun a w s => wp_cond_split (s.eval hc) (fun h => ht h a w s) fun h => hf h a w s
theorem Run.cond_t {c : Operand} {x y : Code} (hc : opv G c = some (.bool true)) (ht : Run P N x K G S F) : Run P N (.cond c x y) K G S F :=
  Run.cond hc (fun _ => ht) fun h => by cases h
theorem Run.cond_f {c : Operand} {x y : Code} (hc : opv G c = some (.bool false)) (hf : Run P N y K G S F) : Run P N (.cond c x y) K G S F :=
  Run.cond hc (fun h => by cases h) fun _ => hf
theorem Run.block {id : Nat} {c : Code} (h : Run P N c (K.pushX id) G S F) : Run P N (.block id c) K G S F :=
  fun a w s => wp_block (wp_mono (h a w s) fun e a' w' q => by
    cases e with
    | exit id' =>
      simp only [Posts.q, Posts.pushX, findX] at q
      simp only [Exit.inBlock]
      cases hb : Nat.beq id id' with
      | true => rw [hb] at q; rw [if_pos (Nat.eq_of_beq_eq_true hb).symm]; exact q
      | false => rw [hb] at q; rw [if_neg (Ne.symm (Nat.ne_of_beq_eq_false hb))]; exact q
    | _ => exact q)
theorem least (p : Nat → Prop) (h : ∃ n, p n) : ∃ m, p m ∧ ∀ k, p k → m ≤ k := by
  obtain ⟨n, hn⟩ := h
  induction n using Nat.strongRecOn with
  | _ n ih =>
    by_cases h : ∃ k, k < n ∧ p k
    · obtain ⟨k, hk, hp⟩ := h; exact ih k hk hp
    · exact ⟨n, hn, fun k hk => Nat.le_of_not_lt fun hlt => h ⟨k, hlt, hk⟩⟩
theorem Run.loop {X : Type} (GI : X → Env) (SI : X → List HProp) (μ : X → Nat) {c : Code} (x0 : X) (h0 : ∀ Φ, J N (GI x0) (SI x0) F Φ → J N G S F Φ)
    (round : ∀ x (k : Act → World → Prop), (∀ x', μ x' < μ x → J N (GI x') (SI x') F k) → Run P N c (K.setN k) (GI x) (SI x) F) : Run P N (.loop c) K G S F := by
  intro a w s
  let I : Act → World → Prop := fun a w => ∃ x, St N (GI x) (SI x) F a w
  have hex : ∀ a w, I a w → ∃ n x, μ x = n ∧ St N (GI x) (SI x) F a w := fun a w ⟨x, hx⟩ => ⟨_, x, rfl, hx⟩
  have hm : ∃ m : Act → World → Nat, (∀ a w x, St N (GI x) (SI x) F a w → m a w ≤ μ x) ∧ ∀ a w, I a w → ∃ x, μ x = m a w ∧ St N (GI x) (SI x) F a w := by
    have key : ∀ a w, ∃ n, (∀ x, St N (GI x) (SI x) F a w → n ≤ μ x) ∧ (I a w → ∃ x, μ x = n ∧ St N (GI x) (SI x) F a w) := by
      intro a w
      by_cases h : I a w
      · obtain ⟨n, h1, h2⟩ := least (fun n => ∃ x, μ x = n ∧ St N (GI x) (SI x) F a w) (hex a w h)
        exact ⟨n, fun x hx => h2 _ ⟨x, rfl, hx⟩, fun _ => h1⟩
      · exact ⟨0, fun _ _ => Nat.zero_le _, fun h' => absurd h' h⟩
    exact ⟨fun a w => (key a w).choose, fun a w => (key a w).choose_spec.1, fun a w => (key a w).choose_spec.2⟩
  obtain ⟨m, hle, hat⟩ := hm
  refine wp_loop I m ⟨x0, h0 (fun a w => St N (GI x0) (SI x0) F a w) (fun _ _ s => s) a w s⟩ fun a w hI => ?_
  obtain ⟨x, hx, hs⟩ := hat a w hI
  refine wp_mono (round x (fun a' w' => I a' w' ∧ m a' w' < m a w) (fun x' hx' a' w' s' => ⟨⟨x', s'⟩, ?_⟩) a w hs) fun e a' w' q => ?_
  · exact Nat.lt_of_le_of_lt (hle a' w' x' s') (hx ▸ hx')
  · cases e <;> exact q
/-- A cut: the code behind it is walked once, from a state that names what it needs. -/
theorem Run.cut {x y : Code} {X : Type} (GI : X → Env) (SI : X → List HProp)
    (h : ∀ k : Act → World → Prop, (∀ x, J N (GI x) (SI x) F k) → Run P N x (K.setN k) G S F) (h2 : ∀ x, Run P N y K (GI x) (SI x) F) : Run P N (.seq x y) K G S F :=
  Run.seq fun k hk => h k fun x => hk _ _ (h2 x)
end control

/-- A Bool is told apart. -/
theorem J.caseB {N : Nat} {G : Env} {S : List HProp} {F : Fr} {Φ : Act → World → Prop} {d : Nat} {b : Bool} (ht : b = true → J N (.cons d (.bool true) G) S F Φ) (hf : b = false → J N (.cons d (.bool false) G) S F Φ) :
    J N (.cons d (.bool b) G) S F Φ := by
  cases b
  · exact hf rfl
  · exact ht rfl
theorem J.caseD {N : Nat} {G : Env} {S : List HProp} {F : Fr} {Φ : Act → World → Prop} {d : Nat} {p : Prop} [Decidable p] (ht : p → J N (.cons d (.bool true) G) S F Φ) (hf : ¬ p → J N (.cons d (.bool false) G) S F Φ) :
    J N (.cons d (.bool (decide p)) G) S F Φ := by
  by_cases h : p
  · simp only [h, decide_true]; exact ht h
  · simp only [h, decide_false]; exact hf h

section ops
variable {P : Program} {N : Nat} {G : Env} {S : List HProp} {F : Fr}
/-- An operation's value, in whatever world. -/
def QP (P : Program) (N : Nat) (G : Env) (S : List HProp) (F : Fr) (o : Oper) (v : Value) : Prop := J N G S F fun a _ => ∀ w', (execOp a.eval o).run P w' = .ok (.value v) w'
/-- What an operation reads. -/
def QR (P : Program) (N : Nat) (G : Env) (S : List HProp) (F : Fr) (o : Oper) (v : Value) : Prop := J N G S F fun a w => (execOp a.eval o).run P w = .ok (.value v) w
/-- What an operation does. -/
def EF (P : Program) (N : Nat) (G : Env) (S : List HProp) (F : Fr) (o : Oper) (next : Value → List HProp → Prop) : Prop :=
  J N G S F fun a w => EStep P o a w fun v w' => ∃ S', next v S' ∧ Sat S' F w'
theorem QP.read {o : Oper} {v : Value} (h : QP P N G S F o v) : QR P N G S F o v := fun a w s => h a w s w
theorem QR.eff {o : Oper} {v : Value} (h : QR P N G S F o v) : EF P N G S F o fun u S' => u = v ∧ S' = S := fun a w s => by
  have h' : (execOp a.eval o).run P w = .ok (.value v) w := h a w s
  show EStep P o a w _
  unfold EStep
  rw [h']
  exact ⟨S, ⟨rfl, rfl⟩, s.sat⟩
theorem QP.eff {o : Oper} {v : Value} (h : QP P N G S F o v) : EF P N G S F o fun u S' => u = v ∧ S' = S := h.read.eff

/-- A guard's word. -/
def Want (N : Nat) (G : Env) (S : List HProp) (F : Fr) (ops : Array Oper) (o : Oper) (b : Bool) : Prop := J N G S F fun a _ => wants ops o a = b
theorem Want.none {ops : Array Oper} {o : Oper} (h : o.guard = .none) : Want N G S F ops o true := fun a w s => by unfold wants Region.wanted; rw [h]
theorem Want.some {ops : Array Oper} {o : Oper} {g d : Nat} {b c : Bool} (h : o.guard = .some (g, b)) (hg : (ops[g]?).bind (·.dst) = .some d) (hl : lk G d = .some (.bool c)) : Want N G S F ops o (c == b) :=
  fun a w s => by
    have := s.slots d _ hl
    show wants ops o a = _
    unfold wants Region.wanted yielded
    simp only [h, hg, Option.bind_some, this]
    rfl

theorem Want.yes {ops : Array Oper} {o : Oper} {g d : Nat} {b c : Bool} (h : o.guard = .some (g, b)) (hg : (ops[g]?).bind (·.dst) = .some d) (hl : lk G d = .some (.bool c)) (hc : (c == b) = true) : Want N G S F ops o true := hc ▸ Want.some h hg hl
theorem Want.no {ops : Array Oper} {o : Oper} {g d : Nat} {b c : Bool} (h : o.guard = .some (g, b)) (hg : (ops[g]?).bind (·.dst) = .some d) (hl : lk G d = .some (.bool c)) (hc : (c == b) = false) : Want N G S F ops o false := hc ▸ Want.some h hg hl
/-- A region in the text's order. -/
def Sq (P : Program) (N : Nat) (ops : Array Oper) (l : List Nat) (K : Posts) (G : Env) (S : List HProp) (F : Fr) : Prop := J N G S F (wpOps P ops K.q l)
theorem Run.region {id : Nat} {ops : Array Oper} {K : Posts} (h : Sq P N ops (List.range ops.size) K G S F) : Run P N (.region id ops false) K G S F := fun a w s => wp_region (h a w s)
theorem Sq.nil {ops : Array Oper} {K : Posts} (h : J N G S F K.n) : Sq P N ops [] K G S F := h
theorem Sq.eff {ops : Array Oper} {K : Posts} {i : Nat} {l : List Nat} {o : Oper} {d : Nat} {next : Value → List HProp → Prop} (ho : ops[i]? = some o) (hw : Want N G S F ops o true) (hd : o.dst = some d) (hn : d < N)
    (he : EF P N G S F o next) (h : ∀ v S', next v S' → Sq P N ops l K (.cons d v G) S' F) : Sq P N ops (i :: l) K G S F := fun a w s => by
  have hw' : Region.wanted o (yielded ops a.tmps) = true := hw a w s
  simp only [wpOps, ho, hw', if_true]
  refine .inl (EStep.wp (he a w s) fun v w' ⟨S', hv, hs⟩ => ?_)
  rw [hd]
  exact h v S' hv _ _ (s.put hn v hs)
theorem Sq.act {ops : Array Oper} {K : Posts} {i : Nat} {l : List Nat} {o : Oper} {next : Value → List HProp → Prop} (ho : ops[i]? = some o) (hw : Want N G S F ops o true) (hd : o.dst = none)
    (he : EF P N G S F o next) (h : ∀ v S', next v S' → Sq P N ops l K G S' F) : Sq P N ops (i :: l) K G S F := fun a w s => by
  have hw' : Region.wanted o (yielded ops a.tmps) = true := hw a w s
  simp only [wpOps, ho, hw', if_true]
  refine .inl (EStep.wp (he a w s) fun v w' ⟨S', hv, hs⟩ => ?_)
  rw [hd]
  exact h v S' hv _ _ (s.world hs)
theorem Sq.quiet {ops : Array Oper} {K : Posts} {i : Nat} {l : List Nat} {o : Oper} {d : Nat} {v : Value} (ho : ops[i]? = some o) (hw : Want N G S F ops o true) (hd : o.dst = some d) (hn : d < N)
    (he : QR P N G S F o v) (h : Sq P N ops l K (.cons d v G) S F) : Sq P N ops (i :: l) K G S F :=
  Sq.eff ho hw hd hn he.eff (by rintro _ _ ⟨rfl, rfl⟩; exact h)
theorem Sq.skip {ops : Array Oper} {K : Posts} {i : Nat} {l : List Nat} {o : Oper} {d : Nat} (ho : ops[i]? = some o) (hw : Want N G S F ops o false) (hd : o.dst = some d) (hn : d < N)
    (h : Sq P N ops l K (.cons d undef G) S F) : Sq P N ops (i :: l) K G S F := fun a w s => by
  have hw' : Region.wanted o (yielded ops a.tmps) = false := hw a w s
  simp only [wpOps, ho, hw', Bool.false_eq_true, if_false]
  rw [hd]
  exact h _ _ (s.put hn undef s.sat)

/-- A region that draws its order. D: what is done. -/
def Dw (P : Program) (N : Nat) (ops : Array Oper) (M : List Nat) (q r : Nat) (D : List Nat) (k : Act → World → Prop) (G : Env) (S : List HProp) (F : Fr) : Prop := J N G S F (RW P ops M q r k D)
theorem Run.regionD {id : Nat} {ops : Array Oper} {K : Posts} {M : List Nat} {q r : Nat} (ok : regOk ops q M = true) (h : Dw P N ops M q r [] K.n G S F) : Run P N (.region id ops true) K G S F :=
  fun a _ s => wp_region_any ok (h a _ ⟨s.defers, s.size, s.slots, s.sat.drew (Nat.le_succ _)⟩)
/-- The same where the text's order and the other one are mixed. -/
theorem Run.regionM {id : Nat} {ops : Array Oper} {K : Posts} {M : List Nat} {q r : Nat} (hm : P.follows .mixedOrders = true) (ok : regOk0 ops q M = true) (h : Dw P N ops M q r [] K.n G S F) : Run P N (.region id ops true) K G S F :=
  fun a _ s => wp_region_mixed (by rw [hm]; rfl) ok (h a _ ⟨s.defers, s.size, s.slots, s.sat.drew (Nat.le_succ _)⟩)
variable {ops : Array Oper} {M : List Nat} {q r : Nat} {D : List Nat} {k : Act → World → Prop}
def allIn (n : Nat) (D : List Nat) : Bool := (List.range n).all fun i => D.any (Nat.beq i)
theorem any_beq {D : List Nat} {i : Nat} (h : D.any (Nat.beq i) = true) : i ∈ D := by
  obtain ⟨x, hx, hb⟩ := List.any_eq_true.1 h
  rw [Nat.eq_of_beq_eq_true hb]; exact hx
theorem mem_any {D : List Nat} {i : Nat} (h : i ∈ D) : D.any (Nat.beq i) = true := List.any_eq_true.2 ⟨i, h, by simp⟩
theorem Dw.nil (hall : allIn ops.size D = true) (h : J N G S F k) : Dw P N ops M q r D k G S F := fun a w s =>
  (RW.clos P ops M q r k).done D a w (fun i hi => any_beq (List.all_eq_true.1 hall i (List.mem_range.2 hi))) (h a w s)
/-- May operation i come now? -/
def isReady (ops : Array Oper) (D : List Nat) (i : Nat) : Bool := match ops[i]? with | none => false | some o => (aft o).all fun e => D.any (Nat.beq e.on)
theorem ready_of {i : Nat} {o : Oper} (ho : ops[i]? = some o) (h : isReady ops D i = true) : ready o D := fun e he => by
  unfold isReady at h
  rw [ho] at h
  exact any_beq (List.all_eq_true.1 h e he)
/-- What is asked of a quiet step, by computation. -/
def stepOk (ops : Array Oper) (D : List Nat) (q i : Nat) : Bool := isReady ops D i && !D.any (Nat.beq i) && q.testBit i
theorem stepOk_of {i : Nat} {o : Oper} (ho : ops[i]? = some o) (h : stepOk ops D q i = true) : i ∉ D ∧ q.testBit i = true ∧ ready o D := by
  unfold stepOk at h
  simp only [Bool.and_eq_true, Bool.not_eq_true'] at h
  exact ⟨fun hm => by rw [mem_any hm] at h; exact absurd h.1.2 (by simp), h.2, ready_of ho h.1.1⟩
theorem Dw.pure {i : Nat} {o : Oper} {d : Nat} {v : Value} (ho : ops[i]? = some o) (hok : (stepOk ops D q i && !r.testBit i) = true) (hw : Want N G S F ops o true) (hd : o.dst = some d) (hn : d < N)
    (he : QP P N G S F o v) (h : Dw P N ops M q r (i :: D) k (.cons d v G) S F) : Dw P N ops M q r D k G S F := fun a w s => by
  rw [Bool.and_eq_true] at hok
  obtain ⟨h1, h2, h3⟩ := stepOk_of ho hok.1
  exact (RW.clos P ops M q r k).quiet D a w i o d v ho h1 h2 h3 (hw a w s) hd (by rw [s.size]; exact hn) (.inl ⟨by simpa using hok.2, he a w s⟩) (h _ _ (s.put hn v s.sat))
theorem Dw.read {i : Nat} {o : Oper} {d : Nat} {v : Value} (ho : ops[i]? = some o) (hok : (stepOk ops D q i && r.testBit i) = true) (hw : Want N G S F ops o true) (hd : o.dst = some d) (hn : d < N)
    (he : QR P N G S F o v) (h : Dw P N ops M q r (i :: D) k (.cons d v G) S F) : Dw P N ops M q r D k G S F := fun a w s => by
  rw [Bool.and_eq_true] at hok
  obtain ⟨h1, h2, h3⟩ := stepOk_of ho hok.1
  exact (RW.clos P ops M q r k).quiet D a w i o d v ho h1 h2 h3 (hw a w s) hd (by rw [s.size]; exact hn) (.inr ⟨hok.2, he a w s⟩) (h _ _ (s.put hn v s.sat))
theorem Dw.skip {i : Nat} {o : Oper} {d : Nat} (ho : ops[i]? = some o) (hok : stepOk ops D q i = true) (hw : Want N G S F ops o false) (hd : o.dst = some d) (hn : d < N)
    (h : Dw P N ops M q r (i :: D) k (.cons d undef G) S F) : Dw P N ops M q r D k G S F := fun a w s => by
  obtain ⟨h1, h2, h3⟩ := stepOk_of ho hok
  exact (RW.clos P ops M q r k).skip D a w i o d ho h1 h2 h3 (hw a w s) hd (by rw [s.size]; exact hn) (h _ _ (s.put hn undef s.sat))
/-- What may come next. -/
def nexts (ops : Array Oper) (D : List Nat) : List Nat := (List.range ops.size).filter fun i => isReady ops D i && !D.any (Nat.beq i)
/-- What must be looked at again behind i. -/
def agains (M : List Nat) (q r : Nat) (D : List Nat) (i : Nat) : List Nat := D.filter fun j => q.testBit j && r.testBit j && !bef M j i
/-- One of the effects that may come next. -/
def One (P : Program) (N : Nat) (ops : Array Oper) (M : List Nat) (q r : Nat) (D : List Nat) (k : Act → World → Prop) (G : Env) (S : List HProp) (F : Fr) (i : Nat) : Prop :=
  q.testBit i = false ∧ J N G S F fun a w => ∀ o, ops[i]? = some o →
    (wants ops o a = true → EStep P o a w fun v w' => Again P ops M q r D i (a.put o.dst v) w' ∧ RW P ops M q r k (i :: D) (a.put o.dst v) w') ∧
    (wants ops o a = false → RW P ops M q r k (i :: D) (a.put o.dst undef) w)
theorem Dw.effs {l : List Nat} (hl : nexts ops D = l) (hne : allIn ops.size D = false) (h : ∀ i ∈ l, One P N ops M q r D k G S F i) : Dw P N ops M q r D k G S F := fun a w s => by
  refine (RW.clos P ops M q r k).effs D a w ?_ fun i o ho hi hrd => ?_
  · refine Classical.byContradiction fun hc => ?_
    have : allIn ops.size D = true := List.all_eq_true.2 fun i hi => by
      by_cases hm : i ∈ D
      · exact mem_any hm
      · exact absurd ⟨i, List.mem_range.1 hi, hm⟩ hc
    rw [this] at hne; cases hne
  · have him : i ∈ l := by
      rw [← hl]
      refine List.mem_filter.2 ⟨List.mem_range.2 (lt_of_get ho), ?_⟩
      have h1 : isReady ops D i = true := by
        unfold isReady; rw [ho]
        exact List.all_eq_true.2 fun e he => mem_any (hrd e he)
      have h2 : D.any (Nat.beq i) = false := by
        cases hb : D.any (Nat.beq i) with
        | false => rfl
        | true => exact absurd (any_beq hb) hi
      rw [h1, h2]; rfl
    obtain ⟨h1, h2⟩ := h i him
    obtain ⟨h3, h4⟩ := h2 a w s o ho
    exact ⟨h1, h3, h4⟩
/-- Looked at again. -/
def Look (P : Program) (N : Nat) (ops : Array Oper) (G : Env) (S : List HProp) (F : Fr) (j : Nat) : Prop :=
  ∀ o, ops[j]? = some o → J N G S F fun a w => wants ops o a = true → ∃ d v, o.dst = some d ∧ a.tmps[d]? = some v ∧ (execOp a.eval o).run P w = .ok (.value v) w
theorem Look.mk {j : Nat} {o : Oper} {d : Nat} {v : Value} (ho : ops[j]? = some o) (hd : o.dst = some d) (hv : lk G d = some v) (he : QR P N G S F o v) : Look P N ops G S F j := fun o' ho' a w s _ => by
  rw [ho] at ho'; cases ho'
  exact ⟨d, v, hd, s.slots d v hv, he a w s⟩
theorem Look.no {j : Nat} {o : Oper} (ho : ops[j]? = some o) (hw : Want N G S F ops o false) : Look P N ops G S F j := fun o' ho' a w s h => by
  rw [ho] at ho'; cases ho'
  rw [hw a w s] at h; cases h
theorem One.mk {i : Nat} {o : Oper} {d : Nat} {next : Value → List HProp → Prop} {l : List Nat} (ho : ops[i]? = some o) (hq : q.testBit i = false) (hw : Want N G S F ops o true) (hd : o.dst = some d) (hn : d < N)
    (he : EF P N G S F o next) (hl : agains M q r D i = l)
    (h : ∀ v S', next v S' → (∀ j ∈ l, Look P N ops (.cons d v G) S' F j) ∧ Dw P N ops M q r (i :: D) k (.cons d v G) S' F) : One P N ops M q r D k G S F i := by
  refine ⟨hq, fun a w s o' ho' => ?_⟩
  rw [ho] at ho'; cases ho'
  refine ⟨fun _ => (he a w s).mono fun v w' ⟨S', hv, hs⟩ => ?_, fun hf => by rw [hw a w s] at hf; cases hf⟩
  obtain ⟨h1, h2⟩ := h v S' hv
  rw [hd]
  have s' := s.put hn v hs
  refine ⟨fun j hj hqj hrj hb p hp hwp => ?_, h2 _ _ s'⟩
  have hm : j ∈ l := by
    rw [← hl]
    exact List.mem_filter.2 ⟨hj, by rw [hqj, hrj, hb]; rfl⟩
  exact h1 j hm p hp _ _ s' hwp
theorem One.act {i : Nat} {o : Oper} {next : Value → List HProp → Prop} {l : List Nat} (ho : ops[i]? = some o) (hq : q.testBit i = false) (hw : Want N G S F ops o true) (hd : o.dst = none)
    (he : EF P N G S F o next) (hl : agains M q r D i = l)
    (h : ∀ v S', next v S' → (∀ j ∈ l, Look P N ops G S' F j) ∧ Dw P N ops M q r (i :: D) k G S' F) : One P N ops M q r D k G S F i := by
  refine ⟨hq, fun a w s o' ho' => ?_⟩
  rw [ho] at ho'; cases ho'
  refine ⟨fun _ => (he a w s).mono fun v w' ⟨S', hv, hs⟩ => ?_, fun hf => by rw [hw a w s] at hf; cases hf⟩
  obtain ⟨h1, h2⟩ := h v S' hv
  rw [hd]
  have s' := s.world hs
  refine ⟨fun j hj hqj hrj hb p hp hwp => ?_, h2 _ _ s'⟩
  have hm : j ∈ l := by
    rw [← hl]
    exact List.mem_filter.2 ⟨hj, by rw [hqj, hrj, hb]; rfl⟩
  exact h1 j hm p hp _ _ s' hwp
theorem One.skip {i : Nat} {o : Oper} (ho : ops[i]? = some o) (hq : q.testBit i = false) (hw : Want N G S F ops o false) (hd : o.dst = none ∨ ∃ d, o.dst = some d ∧ d < N)
    (h : ∀ G', (∀ t v, lk G' t = some v → (o.dst ≠ some t → lk G t = some v) ∧ (o.dst = some t → v = undef)) → Dw P N ops M q r (i :: D) k G' S F) : One P N ops M q r D k G S F i := by
  refine ⟨hq, fun a w s o' ho' => ?_⟩
  rw [ho] at ho'; cases ho'
  refine ⟨(fun hf => by rw [hw a w s] at hf; cases hf), fun _ => ?_⟩
  rcases hd with hd | ⟨d, hd, hn⟩
  · rw [hd]; exact h G (fun t v e => ⟨fun _ => e, fun hc => by rw [hd] at hc; cases hc⟩) _ _ s
  · rw [hd]
    refine h (.cons d undef G) (fun t v e => ?_) _ _ (s.put hn undef s.sat)
    rcases lk_cons e with ⟨rfl, rfl⟩ | ⟨hne, e'⟩
    · exact ⟨fun hc => absurd hd hc, fun _ => rfl⟩
    · exact ⟨fun _ => e', fun hc => by rw [hd] at hc; cases hc; exact absurd rfl hne⟩
/-- Only one effect may come next. -/
theorem Dw.eff {i : Nat} (hl : nexts ops D = [i]) (hne : allIn ops.size D = false) (h : One P N ops M q r D k G S F i) : Dw P N ops M q r D k G S F :=
  Dw.effs hl hne fun j hj => by rw [List.mem_singleton.1 hj]; exact h
end ops

section funcs
/-- What a call of f does: of what the list says, and nothing else. -/
def Spec (P : Program) (f : FuncId) (args : Array Value) (S : List HProp) (F : Fr) (R : Value → List HProp → Prop) : Prop :=
  ∀ w, Sat S F w → Calls P f args w fun e w' => ∃ v S', e = .returned v ∧ R v S' ∧ Sat S' F w'
variable {P : Program} {N : Nat} {G : Env} {S : List HProp} {F : Fr}
theorem Spec.mono {f : FuncId} {args : Array Value} {R R' : Value → List HProp → Prop} (h : Spec P f args S F R) (hr : ∀ v S', R v S' → R' v S') : Spec P f args S F R' :=
  fun w s => (h w s).mono fun _ _ ⟨v, S', he, r, s'⟩ => ⟨v, S', he, hr v S' r, s'⟩
/-- The rest of the heap goes to the frame. -/
theorem Sat.lend {m r : List HProp} {w : World} (s : Sat (m ++ r) F w) : ∃ F' : Fr, Sat m F' w ∧ PH.le F.h F'.h ∧ (∀ b o, pts b o ∈ r → F'.h b = some o) ∧ ∀ m' w', Sat m' F' w' → Sat (m' ++ r) F w' := by
  obtain ⟨a, b, c, d, h, e, f, g⟩ := s
  obtain ⟨h1, h2, dd, rfl, x, y⟩ := stars_append.1 e
  have d1 := PH.disj_union_left f
  have d2 := PH.disj_union_right dd f
  refine ⟨{ F with h := PH.union F.h h2 }, ⟨a, b, c, PH.union_le d ((PH.le_union_right dd).trans g), h1, x, ?_, PH.le_union_left.trans g⟩, PH.le_union_left, fun b o hm => ?_, fun m' w' s' => ?_⟩
  · exact (PH.disj_union d1.symm dd.symm).symm
  · have key : ∀ l : List HProp, pts b o ∈ l → ∀ k, stars l k → k b = some o := by
      intro l
      induction l with
      | nil => intro hm; cases hm
      | cons A l ih =>
        intro hm k hk
        obtain ⟨k1, k2, kd, rfl, ka, kl⟩ := hk
        rcases List.mem_cons.1 hm with rfl | hm
        · rw [show k1 = PH.single b o from ka]; exact PH.le_union_left b o (single_self b o)
        · exact PH.le_union_right kd b o (ih hm k2 kl)
    exact PH.le_union_right d2.symm b o (key r hm h2 y)
  · obtain ⟨a', b', c', d', h', e', f', g'⟩ := s'
    have f1 : PH.disj h' F.h := (PH.disj_union_left f'.symm).symm
    have f2 : PH.disj h' h2 := (PH.disj_union_right d2.symm f'.symm).symm
    refine ⟨a', b', c', PH.le_union_left.trans d', PH.union h' h2, stars_append.2 ⟨h', h2, f2, rfl, e', y⟩, PH.disj_union f1 d2, PH.union_le g' ((PH.le_union_right d2.symm).trans d')⟩
/-- A function that can be entered. -/
def CanEnter (P : Program) (f : FuncId) : Prop := ∃ fn, P.funcs[f]? = some fn ∧ (fn.name == "runtime.NumGoroutine") = false ∧ fn.body.isNone = false
theorem run_enter {f : FuncId} (h : CanEnter P f) (args : Array Value) (w : World) : (callFunc f args).run P w = .ok (.enter f args) w := by
  obtain ⟨fn, hf, hn, hb⟩ := h
  unfold callFunc
  show Sem.run P (Sem.bind (.program .pure) _) w = _
  simp only [Sem.bind, Sem.run, hf, hn, hb]
  rfl
/-- The operands' values. -/
def opvs (G : Env) : List Operand → Option (List Value)
  | [] => some []
  | x :: l => match opv G x, opvs G l with
    | some v, some vs => some (v :: vs)
    | _, _ => none
theorem St.evals {a : Act} {w : World} (s : St N G S F a w) : ∀ {l : List Operand} {vs : List Value}, opvs G l = some vs → l.map a.eval = vs
  | [], vs, h => by simpa [opvs] using h
  | x :: l, vs, h => by
    unfold opvs at h
    split at h
    · rename_i v vs' hv hvs
      simp only [Option.some.injEq] at h
      subst h
      simp [s.eval hv, s.evals hvs]
    · cases h
/-- A call of a Go function by its contract; what it does not ask for stays. -/
theorem EF.call {o : Oper} {f : FuncId} {args : Array Operand} {at_ : Array TypeId} {vs : List Value} {m r : List HProp} {R : Value → List HProp → Prop}
    (ho : o.op = .call ⟨.value (.func f), args, at_⟩) (hc : CanEnter P f) (hv : opvs G args.toList = some vs) (t : Takes S m r)
    (hs : ∀ F' : Fr, PH.le F.h F'.h → (∀ b o, pts b o ∈ r → F'.h b = some o) → Spec P f vs.toArray m F' R) : EF P N G S F o fun v S' => ∃ S1, R v S1 ∧ S' = S1 ++ r := fun a w s => by
  have hargs : args.map a.eval = vs.toArray := by
    have := s.evals hv
    rw [← this]
    apply Array.ext'
    simp
  have hrun : (execOp a.eval o).run P w = .ok (.enter f vs.toArray) w := by
    unfold execOp
    simp only [ho, resolve]
    rw [hargs]
    show (callFunc f _).run P w = _
    rw [run_enter hc]
    simp
  show EStep P o a w _
  unfold EStep
  rw [hrun]
  obtain ⟨F', s1, hle, hr, back⟩ := (s.sat.takes t).lend
  refine (hs F' hle hr w s1).mono fun e w' ⟨v, S', he, hR, s'⟩ => ?_
  subst he
  exact ⟨S' ++ r, ⟨S', hR, rfl⟩, back _ _ s'⟩
/-- At a function's end. -/
def Ends (P : Program) (fn : Func) (F : Fr) (R : Value → List HProp → Prop) : Act → World → Prop :=
  fun a w => a.defers = [] ∧ ∃ v, (results fn a.tmps).run P w = .ok v w ∧ ∃ S', R v S' ∧ Sat S' F w
def initG : List Value → Nat → Env
  | [], _ => .nil
  | v :: l, t => .cons t v (initG l (t + 1))
theorem lk_initG {l : List Value} {t x : Nat} {v : Value} (h : lk (initG l t) x = some v) : t ≤ x ∧ l[x - t]? = some v := by
  induction l generalizing t with
  | nil => cases h
  | cons u l ih =>
    rcases lk_cons h with ⟨rfl, rfl⟩ | ⟨_, h'⟩
    · simp
    · obtain ⟨h1, h2⟩ := ih h'
      refine ⟨by omega, ?_⟩
      rw [show x - t = (x - (t + 1)) + 1 by omega]
      simpa using h2
theorem Spec.intro {f : FuncId} {fn : Func} {c : Code} {args : List Value} {R : Value → List HProp → Prop} (hf : P.funcs[f]? = some fn) (hb : fn.body = some c) (hN : fn.ntmps = N) (hl : args.length ≤ N)
    (h : Run P N c ⟨Ends P fn F R, Ends P fn F R, []⟩ (initG args 0) S F) : Spec P f args.toArray S F R := fun w s => by
  refine calls_of_wp hf hb (wp_mono (h _ w ⟨rfl, by simp [hN]; omega, fun t v e => ?_, s⟩) fun e a' w' q => ?_)
  · obtain ⟨_, h2⟩ := lk_initG e
    have hlt := (List.getElem?_eq_some_iff.1 h2).1
    simp only [Nat.sub_zero] at h2 hlt
    rw [Array.getElem?_append_left (by simpa using hlt)]
    simpa using h2
  · cases e with
    | normal => obtain ⟨h1, v, h2, S', h3, h4⟩ := q; exact ⟨h1, v, h2, v, S', rfl, h3, h4⟩
    | ret => obtain ⟨h1, v, h2, S', h3, h4⟩ := q; exact ⟨h1, v, h2, v, S', rfl, h3, h4⟩
    | exit id => exact q.elim
    | goto l => exact q.elim
    | panic c => exact q.elim
    | outgrown => exact q.elim
theorem J.ends {fn : Func} {R : Value → List HProp → Prop} {v : Value} {m r : List HProp} (hv : J N G S F fun a w => (results fn a.tmps).run P w = .ok v w) (t : Takes S m r) (hR : R v m) : J N G S F (Ends P fn F R) :=
  fun a w s => ⟨s.defers, v, hv a w s, m, hR, (s.sat.takes t).dropR⟩
theorem res_tmp {fn : Func} {t : Nat} {v : Value} (h : fn.results = #[.tmp t]) (hv : lk G t = some v) : J N G S F fun a w => (results fn a.tmps).run P w = .ok v w := fun a w s => by
  have := s.slots t v hv
  simp [results, h, this, pure, Sem.run]
theorem res_tmp2 {fn : Func} {t u : Nat} {v x : Value} (h : fn.results = #[.tmp t, .tmp u]) (hv : lk G t = some v) (hx : lk G u = some x) : J N G S F fun a w => (results fn a.tmps).run P w = .ok (.tuple #[v, x]) w := fun a w s => by
  have h1 := s.slots t v hv
  have h2 := s.slots u x hx
  simp [results, h, h1, h2, pure, Sem.run]
theorem res_none {fn : Func} (h : fn.results = #[]) : J N G S F fun a w => (results fn a.tmps).run P w = .ok (.tuple #[]) w := fun a w s => by
  simp [results, h, pure, Sem.run]
end funcs
end Slb
