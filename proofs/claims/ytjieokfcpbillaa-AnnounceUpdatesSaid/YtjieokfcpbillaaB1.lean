/- Base 1: partial heaps, assertions, the state of a walk (what slots hold, what the heap holds, what stays). -/
import Derived.Calls
import Derived.Laws.Sem
import Derived.Laws.World
import Derived.KernelRfl
namespace Slb
open Go

/-- A part of a heap. -/
abbrev PH := Nat → Option Obj
def PH.none : PH := fun _ => Option.none
def PH.union (h k : PH) : PH := fun b => (h b).or (k b)
def PH.disj (h k : PH) : Prop := ∀ b, h b = Option.none ∨ k b = Option.none
def PH.le (h k : PH) : Prop := ∀ b o, h b = some o → k b = some o
def PH.single (b : Nat) (o : Obj) : PH := fun c => if c = b then some o else Option.none
def hp (w : World) : PH := fun b => w.heap[b]?

theorem PH.le.refl (h : PH) : PH.le h h := fun _ _ e => e
theorem PH.le.trans {a b c : PH} (h : PH.le a b) (k : PH.le b c) : PH.le a c := fun x o e => k x o (h x o e)
theorem PH.disj.symm {h k : PH} (d : PH.disj h k) : PH.disj k h := fun b => (d b).symm
theorem PH.none_le (h : PH) : PH.le PH.none h := fun _ _ e => by cases e
theorem PH.none_disj (h : PH) : PH.disj PH.none h := fun _ => .inl rfl
theorem PH.union_none (h : PH) : PH.union h PH.none = h := by funext b; simp [PH.union, PH.none]
theorem PH.none_union (h : PH) : PH.union PH.none h = h := by funext b; simp [PH.union, PH.none]
theorem PH.le_union_left {h k : PH} : PH.le h (PH.union h k) := fun b o e => by simp [PH.union, e]
theorem PH.le_union_right {h k : PH} (d : PH.disj h k) : PH.le k (PH.union h k) := fun b o e => by
  rcases d b with h1 | h1
  · simp [PH.union, h1, e]
  · rw [h1] at e; cases e
theorem PH.union_le {h k l : PH} (a : PH.le h l) (b : PH.le k l) : PH.le (PH.union h k) l := fun x o e => by
  unfold PH.union at e
  cases hx : h x with
  | none => rw [hx] at e; exact b x o (by simpa using e)
  | some o' => rw [hx] at e; simp at e; subst e; exact a x _ hx
theorem PH.disj_union {h k l : PH} (a : PH.disj h l) (b : PH.disj k l) : PH.disj (PH.union h k) l := fun x => by
  rcases a x with h1 | h1
  · rcases b x with h2 | h2
    · left; simp [PH.union, h1, h2]
    · right; exact h2
  · right; exact h1
theorem PH.disj_of_le {h h' k : PH} (a : PH.le h' h) (d : PH.disj h k) : PH.disj h' k := fun b => by
  rcases d b with h1 | h1
  · left
    cases e : h' b with
    | none => rfl
    | some o => rw [a b o e] at h1; cases h1
  · exact .inr h1
theorem PH.union_comm {h k : PH} (d : PH.disj h k) : PH.union h k = PH.union k h := by
  funext b
  unfold PH.union
  rcases d b with h1 | h1 <;> simp [h1]
theorem PH.union_assoc (h k l : PH) : PH.union (PH.union h k) l = PH.union h (PH.union k l) := by
  funext b; simp [PH.union, Option.or_assoc]
theorem PH.disj_union_left {h k l : PH} (d : PH.disj (PH.union h k) l) : PH.disj h l := PH.disj_of_le PH.le_union_left d
theorem PH.disj_union_right {h k l : PH} (hk : PH.disj h k) (d : PH.disj (PH.union h k) l) : PH.disj k l := PH.disj_of_le (PH.le_union_right hk) d

/-- An assertion on a part of a heap: of just that part. -/
abbrev HProp := PH → Prop
def emp : HProp := fun h => h = PH.none
def star (A B : HProp) : HProp := fun h => ∃ h1 h2, PH.disj h1 h2 ∧ h = PH.union h1 h2 ∧ A h1 ∧ B h2
def stars : List HProp → HProp
  | [] => emp
  | A :: l => star A (stars l)
/-- Block b is the object o. -/
def pts (b : Nat) (o : Obj) : HProp := fun h => h = PH.single b o
/-- Block b is a row of cells. -/
def blk (b : Nat) (l : List Value) (ty : TypeId) : HProp := pts b (.cells l.toArray ty (0, 0))
def fact (p : Prop) : HProp := fun h => p ∧ h = PH.none
def ex {α : Type} (A : α → HProp) : HProp := fun h => ∃ x, A x h

theorem star_comm {A B : HProp} {h : PH} (s : star A B h) : star B A h := by
  obtain ⟨h1, h2, d, rfl, a, b⟩ := s
  exact ⟨h2, h1, d.symm, PH.union_comm d, b, a⟩
theorem star_assoc {A B C : HProp} {h : PH} (s : star (star A B) C h) : star A (star B C) h := by
  obtain ⟨h12, h3, d, rfl, ⟨h1, h2, d', rfl, a, b⟩, c⟩ := s
  refine ⟨h1, PH.union h2 h3, ?_, PH.union_assoc _ _ _, a, h2, h3, PH.disj_union_right d' d, rfl, b, c⟩
  have := PH.disj_union_left d
  exact (PH.disj_union d'.symm this.symm).symm
theorem star_assoc' {A B C : HProp} {h : PH} (s : star A (star B C) h) : star (star A B) C h :=
  star_comm (star_assoc (star_comm (star_assoc (star_comm s))))
theorem star_mono {A A' B B' : HProp} {h : PH} (a : ∀ h, A h → A' h) (b : ∀ h, B h → B' h) (s : star A B h) : star A' B' h := by
  obtain ⟨h1, h2, d, rfl, x, y⟩ := s
  exact ⟨h1, h2, d, rfl, a _ x, b _ y⟩
theorem star_swap {A B C : HProp} {h : PH} (s : star A (star B C) h) : star B (star A C) h :=
  star_assoc (star_mono (fun _ x => star_comm x) (fun _ x => x) (star_assoc' s))
theorem star_emp {A : HProp} {h : PH} (a : A h) : star A emp h := ⟨h, PH.none, fun _ => .inr rfl, (PH.union_none h).symm, a, rfl⟩
theorem emp_star {A : HProp} {h : PH} (a : A h) : star emp A h := star_comm (star_emp a)
theorem of_emp_star {A : HProp} {h : PH} (a : star emp A h) : A h := by
  obtain ⟨h1, h2, d, rfl, e, a⟩ := a
  rw [show h1 = PH.none from e, PH.none_union]; exact a
theorem of_star_emp {A : HProp} {h : PH} (a : star A emp h) : A h := of_emp_star (star_comm a)

theorem stars_append {l m : List HProp} {h : PH} : stars (l ++ m) h ↔ star (stars l) (stars m) h := by
  induction l generalizing h with
  | nil => exact ⟨emp_star, of_emp_star⟩
  | cons A l ih =>
    constructor
    · intro s
      exact star_assoc' (star_mono (fun _ x => x) (fun _ x => ih.1 x) s)
    · intro s
      exact star_mono (fun _ x => x) (fun _ x => ih.2 x) (star_assoc s)
theorem stars_perm {l m : List HProp} (p : l.Perm m) : ∀ {h : PH}, stars l h → stars m h := by
  induction p with
  | nil => exact fun s => s
  | cons A _ ih => exact fun s => star_mono (fun _ x => x) (fun _ x => ih x) s
  | swap A B l => exact fun s => star_swap s
  | trans _ _ ih1 ih2 => exact fun s => ih2 (ih1 s)
theorem stars_one {A : HProp} {h : PH} : stars [A] h ↔ A h := ⟨of_star_emp, star_emp⟩

/-- The frame: what stays as it is, from the call's begin to its end. -/
structure Fr where
  h : PH
  os : Os
  tape : Nat → Question → Nat
  output : Array (Nat × ByteArray)
  drawn : Nat
/-- The world holds, apart from one another, what the list says, and the frame. -/
def Sat (S : List HProp) (F : Fr) (w : World) : Prop :=
  w.os = F.os ∧ w.tape = F.tape ∧ (w.output = F.output ∧ F.drawn ≤ w.drawn) ∧ PH.le F.h (hp w) ∧ ∃ h, stars S h ∧ PH.disj h F.h ∧ PH.le h (hp w)

theorem Sat.drew {S : List HProp} {F : Fr} {w : World} (s : Sat S F w) {n : Nat} (hn : w.drawn ≤ n) : Sat S F { w with drawn := n } := by
  obtain ⟨a, b, c, r⟩ := s
  exact ⟨a, b, ⟨c.1, Nat.le_trans c.2 hn⟩, r⟩
theorem Sat.perm {S S' : List HProp} {F : Fr} {w : World} (p : S.Perm S') (s : Sat S F w) : Sat S' F w := by
  obtain ⟨a, b, c, d, h, e, f, g⟩ := s
  exact ⟨a, b, c, d, h, stars_perm p e, f, g⟩
theorem Sat.mono {S S' : List HProp} {F : Fr} {w : World} (m : ∀ h, stars S h → ∃ h', PH.le h' h ∧ stars S' h') (s : Sat S F w) : Sat S' F w := by
  obtain ⟨a, b, c, d, h, e, f, g⟩ := s
  obtain ⟨h', l, e'⟩ := m h e
  exact ⟨a, b, c, d, h', e', PH.disj_of_le l f, l.trans g⟩
theorem Sat.head {A B : HProp} {S : List HProp} {F : Fr} {w : World} (m : ∀ h, A h → B h) (s : Sat (A :: S) F w) : Sat (B :: S) F w :=
  Sat.mono (S := A :: S) (fun h e => ⟨h, PH.le.refl h, star_mono m (fun _ x => x) e⟩) s
theorem Sat.drop {A : HProp} {S : List HProp} {F : Fr} {w : World} (s : Sat (A :: S) F w) : Sat S F w :=
  s.mono fun _ e => by obtain ⟨h1, h2, d, rfl, _, b⟩ := e; exact ⟨h2, PH.le_union_right d, b⟩
theorem Sat.ex {α : Type} {A : α → HProp} {S : List HProp} {F : Fr} {w : World} (s : Sat (ex A :: S) F w) : ∃ x, Sat (A x :: S) F w := by
  obtain ⟨a, b, c, d, h, ⟨h1, h2, e1, e2, ⟨x, e3⟩, e4⟩, f, g⟩ := s
  exact ⟨x, a, b, c, d, h, ⟨h1, h2, e1, e2, e3, e4⟩, f, g⟩
theorem Sat.fact {p : Prop} {S : List HProp} {F : Fr} {w : World} (s : Sat (fact p :: S) F w) : p ∧ Sat S F w := by
  obtain ⟨a, b, c, d, h, ⟨h1, h2, e1, rfl, ⟨e3, e5⟩, e4⟩, f, g⟩ := s
  subst e5
  rw [PH.none_union] at f g
  exact ⟨e3, a, b, c, d, h2, e4, f, g⟩
theorem Sat.mkFact {p : Prop} {S : List HProp} {F : Fr} {w : World} (hp : p) (s : Sat S F w) : Sat (Slb.fact p :: S) F w :=
  s.mono fun h e => ⟨h, PH.le.refl h, PH.none, h, PH.none_disj h, (PH.none_union h).symm, ⟨hp, rfl⟩, e⟩
theorem Sat.split {A B : HProp} {S : List HProp} {F : Fr} {w : World} (s : Sat (star A B :: S) F w) : Sat (A :: B :: S) F w :=
  Sat.mono (S := star A B :: S) (fun h e => ⟨h, PH.le.refl h, star_assoc e⟩) s
theorem Sat.join {A B : HProp} {S : List HProp} {F : Fr} {w : World} (s : Sat (A :: B :: S) F w) : Sat (star A B :: S) F w :=
  Sat.mono (S := A :: B :: S) (fun h e => ⟨h, PH.le.refl h, star_assoc' e⟩) s
theorem Sat.flat {L S : List HProp} {F : Fr} {w : World} (s : Sat (stars L :: S) F w) : Sat (L ++ S) F w :=
  Sat.mono (S := stars L :: S) (fun h e => ⟨h, PH.le.refl h, stars_append.2 e⟩) s
theorem Sat.unflat {L S : List HProp} {F : Fr} {w : World} (s : Sat (L ++ S) F w) : Sat (stars L :: S) F w :=
  Sat.mono (S := L ++ S) (fun h e => ⟨h, PH.le.refl h, stars_append.1 e⟩) s

theorem single_self (b : Nat) (o : Obj) : PH.single b o b = some o := by simp [PH.single]
theorem single_eq {b c : Nat} {o p : Obj} (h : PH.single b o c = some p) : c = b ∧ p = o := by
  unfold PH.single at h
  split at h
  · exact ⟨by assumption, by simpa using h.symm⟩
  · cases h
/-- What the first atom says of its block. -/
theorem Sat.at {b : Nat} {o : Obj} {S : List HProp} {F : Fr} {w : World} (s : Sat (pts b o :: S) F w) : w.heap[b]? = some o := by
  obtain ⟨_, _, _, _, h, ⟨h1, h2, d, rfl, a, e⟩, f, g⟩ := s
  subst a
  exact g b o (PH.le_union_left b o (single_self b o))
theorem Sat.frame {S : List HProp} {F : Fr} {w : World} (s : Sat S F w) {b : Nat} {o : Obj} (h : F.h b = some o) : w.heap[b]? = some o := s.2.2.2.1 b o h
/-- A new block. -/
theorem Sat.new {S : List HProp} {F : Fr} {w : World} (s : Sat S F w) (o : Obj) : Sat (pts w.heap.size o :: S) F { w with heap := w.heap.push o } := by
  obtain ⟨a, b, c, d, h, e, f, g⟩ := s
  have hle : ∀ k : PH, PH.le k (hp w) → PH.le k (hp { w with heap := w.heap.push o }) := fun k hk x p hx => by
    have := hk x p hx
    unfold hp at this ⊢
    obtain ⟨hlt, rfl⟩ := Array.getElem?_eq_some_iff.1 this
    simp [Array.getElem?_push, Nat.ne_of_lt hlt]
  have hfresh : ∀ k : PH, PH.le k (hp w) → PH.disj (PH.single w.heap.size o) k := fun k hk x => by
    by_cases hx : x = w.heap.size
    · right
      cases hkx : k x with
      | none => rfl
      | some p =>
        have := hk x p hkx
        unfold hp at this
        rw [hx] at this
        simp at this
    · left; simp [PH.single, hx]
  refine ⟨a, b, c, hle _ d, PH.union (PH.single w.heap.size o) h, ⟨_, _, hfresh h g, rfl, rfl, e⟩, ?_, ?_⟩
  · exact PH.disj_union (hfresh _ d) f
  · refine PH.union_le ?_ (hle _ g)
    intro x p hx
    obtain ⟨rfl, rfl⟩ := single_eq hx
    simp [hp]
/-- The first atom's block is written. -/
theorem Sat.set {b : Nat} {o : Obj} {S : List HProp} {F : Fr} {w w' : World} (s : Sat (pts b o :: S) F w) (o' : Obj)
    (hos : w'.os = w.os) (ht : w'.tape = w.tape) (hou : w'.output = w.output ∧ w.drawn ≤ w'.drawn) (hb : w'.heap[b]? = some o')
    (hr : ∀ c, c ≠ b → w'.heap[c]? = w.heap[c]?) : Sat (pts b o' :: S) F w' := by
  obtain ⟨a1, a2, a3, d, h, ⟨h1, h2, dd, rfl, a, e⟩, f, g⟩ := s
  subst a
  have hne : ∀ k : PH, PH.disj (PH.single b o) k → k b = Option.none := fun k hk => by
    rcases hk b with h1 | h1
    · rw [single_self] at h1; cases h1
    · exact h1
  have hle : ∀ k : PH, PH.disj (PH.single b o) k → PH.le k (hp w) → PH.le k (hp w') := fun k hk hl x p hx => by
    have hxb : x ≠ b := by rintro rfl; rw [hne k hk] at hx; cases hx
    unfold hp
    rw [hr x hxb]
    exact hl x p hx
  have d1 : PH.disj (PH.single b o) F.h := PH.disj_union_left f
  have hdis : ∀ k : PH, PH.disj (PH.single b o) k → PH.disj (PH.single b o') k := fun k hk x => by
    by_cases hx : x = b
    · right; rw [hx]; exact hne k hk
    · left; simp [PH.single, hx]
  refine ⟨hos.trans a1, ht.trans a2, ⟨hou.1.trans a3.1, Nat.le_trans a3.2 hou.2⟩, hle _ d1 d, PH.union (PH.single b o') h2, ⟨_, _, hdis _ dd, rfl, rfl, e⟩, ?_, ?_⟩
  · exact PH.disj_union (hdis _ d1) (PH.disj_union_right dd f)
  · refine PH.union_le ?_ (hle _ dd (PH.le_union_right dd |>.trans g))
    intro x p hx
    obtain ⟨rfl, rfl⟩ := single_eq hx
    exact hb

/-- What a walk knows of the slots. -/
inductive Env where
  | nil
  | cons (t : Nat) (v : Value) (rest : Env)
def lk : Env → Nat → Option Value
  | .nil, _ => Option.none
  | .cons t v r, x => bif Nat.beq t x then some v else lk r x
def opv (G : Env) : Operand → Option Value
  | .tmp t => lk G t
  | .const v => some v
  | .global g => some (.pointer (some ⟨g, 0, Option.none⟩))
  | .func f => some (.func (.func f) #[] #[])
/-- The state of a walk. -/
structure St (N : Nat) (G : Env) (S : List HProp) (F : Fr) (a : Act) (w : World) : Prop where
  defers : a.defers = []
  size : a.tmps.size = N
  slots : ∀ t v, lk G t = some v → a.tmps[t]? = some v
  sat : Sat S F w

theorem St.eval {N : Nat} {G : Env} {S : List HProp} {F : Fr} {a : Act} {w : World} (s : St N G S F a w) {x : Operand} {v : Value} (h : opv G x = some v) : a.eval x = v := by
  cases x with
  | tmp t => simp only [opv] at h; simp [Act.eval, s.slots t v h]
  | const c => simpa [opv, Act.eval] using h
  | global g => simpa [opv, Act.eval] using h
  | func f => simpa [opv, Act.eval] using h
theorem lk_cons {t x : Nat} {u v : Value} {r : Env} (h : lk (.cons t u r) x = some v) : (t = x ∧ u = v) ∨ (t ≠ x ∧ lk r x = some v) := by
  unfold lk at h
  cases hb : Nat.beq t x with
  | true => left; rw [hb] at h; exact ⟨Nat.eq_of_beq_eq_true hb, by simpa using h⟩
  | false => right; rw [hb] at h; exact ⟨Nat.ne_of_beq_eq_false hb, by simpa using h⟩
theorem St.put {N : Nat} {G : Env} {S S' : List HProp} {F : Fr} {a : Act} {w w' : World} (s : St N G S F a w) {d : Nat} (hd : d < N) (v : Value) (s' : Sat S' F w') :
    St N (.cons d v G) S' F (a.put (some d) v) w' := by
  refine ⟨s.defers, by simpa [Act.put] using s.size, fun t u h => ?_, s'⟩
  simp only [Act.put]
  rcases lk_cons h with ⟨rfl, rfl⟩ | ⟨hne, h'⟩
  · rw [Array.getElem?_setIfInBounds]; simp [s.size, hd]
  · rw [Array.getElem?_setIfInBounds]; simp [hne, s.slots _ _ h']
theorem St.weaken {N : Nat} {G G' : Env} {S : List HProp} {F : Fr} {a : Act} {w : World} (s : St N G S F a w) (h : ∀ t v, lk G' t = some v → lk G t = some v) : St N G' S F a w :=
  ⟨s.defers, s.size, fun t v e => s.slots t v (h t v e), s.sat⟩
theorem St.world {N : Nat} {G : Env} {S S' : List HProp} {F : Fr} {a : Act} {w w' : World} (s : St N G S F a w) (s' : Sat S' F w') : St N G S' F a w' :=
  ⟨s.defers, s.size, s.slots, s'⟩
/-- The slots of the second list, as the first has them. -/
def Env.agree (G : Env) : Env → Prop
  | .nil => True
  | .cons t v r => lk G t = some v ∧ Env.agree G r
theorem St.env {N : Nat} {G G' : Env} {S : List HProp} {F : Fr} {a : Act} {w : World} (s : St N G S F a w) (h : G.agree G') : St N G' S F a w := by
  refine s.weaken ?_
  induction G' with
  | nil => intro t v e; cases e
  | cons t u r ih =>
    intro x v e
    rcases lk_cons e with ⟨rfl, rfl⟩ | ⟨_, e'⟩
    · exact h.1
    · exact ih h.2 x v e'
end Slb
