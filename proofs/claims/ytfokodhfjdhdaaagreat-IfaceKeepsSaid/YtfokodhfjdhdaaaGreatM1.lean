/- The bases B1..B11 in one text: a part of the proof that a law of this package holds for every input; no condition. -/
import Derived.Calls
import Derived.Laws.Sem
import Derived.Laws.World
import Derived.KernelRfl
import Derived.WalkKit
import Derived.IntWalk
import Derived.DeepKeys5
import Derived.Maps.Keyed
import Derived.Lib.Bytealg
/- Base 1: partial heaps, assertions, the state of a walk (what slots hold, what the heap holds, what stays). -/
namespace Slb
open Go

/-- A part of a heap. -/
abbrev PH := Nat → Option Obj
def PH.none : PH := fun _ => Option.none
def PH.union (h k : PH) : PH := fun b => (h b).or (k b)
def PH.disj (h k : PH) : Prop := ∀ b, h b = Option.none ∨ k b = Option.none
def PH.le (h k : PH) : Prop := ∀ b o, h b = some o → k b = some o
def PH.single (b : Nat) (o : Obj) : PH := fun c => if c = b then some o else Option.none
def hp (w : World) : PH := fun b => w.heap[b]?

theorem PH.le.refl (h : PH) : PH.le h h := fun _ _ e => e
theorem PH.le.trans {a b c : PH} (h : PH.le a b) (k : PH.le b c) : PH.le a c := fun x o e => k x o (h x o e)
theorem PH.disj.symm {h k : PH} (d : PH.disj h k) : PH.disj k h := fun b => (d b).symm
theorem PH.none_le (h : PH) : PH.le PH.none h := fun _ _ e => by cases e
theorem PH.none_disj (h : PH) : PH.disj PH.none h := fun _ => .inl rfl
theorem PH.union_none (h : PH) : PH.union h PH.none = h := by funext b; simp [PH.union, PH.none]
theorem PH.none_union (h : PH) : PH.union PH.none h = h := by funext b; simp [PH.union, PH.none]
theorem PH.le_union_left {h k : PH} : PH.le h (PH.union h k) := fun b o e => by simp [PH.union, e]
theorem PH.le_union_right {h k : PH} (d : PH.disj h k) : PH.le k (PH.union h k) := fun b o e => by
 rcases d b with h1 | h1
 · simp [PH.union, h1, e]
 · rw [h1] at e; cases e
theorem PH.union_le {h k l : PH} (a : PH.le h l) (b : PH.le k l) : PH.le (PH.union h k) l := fun x o e => by
 unfold PH.union at e
 cases hx : h x with
 | none => rw [hx] at e; exact b x o (by simpa using e)
 | some o' => rw [hx] at e; simp at e; subst e; exact a x _ hx
theorem PH.disj_union {h k l : PH} (a : PH.disj h l) (b : PH.disj k l) : PH.disj (PH.union h k) l := fun x => by
 rcases a x with h1 | h1
 · rcases b x with h2 | h2
   · left; simp [PH.union, h1, h2]
   · right; exact h2
 · right; exact h1
theorem PH.disj_of_le {h h' k : PH} (a : PH.le h' h) (d : PH.disj h k) : PH.disj h' k := fun b => by
 rcases d b with h1 | h1
 · left
   cases e : h' b with
   | none => rfl
   | some o => rw [a b o e] at h1; cases h1
 · exact .inr h1
theorem PH.union_comm {h k : PH} (d : PH.disj h k) : PH.union h k = PH.union k h := by
 funext b
 unfold PH.union
 rcases d b with h1 | h1 <;> simp [h1]
theorem PH.union_assoc (h k l : PH) : PH.union (PH.union h k) l = PH.union h (PH.union k l) := by
 funext b; simp [PH.union, Option.or_assoc]
theorem PH.disj_union_left {h k l : PH} (d : PH.disj (PH.union h k) l) : PH.disj h l := PH.disj_of_le PH.le_union_left d
theorem PH.disj_union_right {h k l : PH} (hk : PH.disj h k) (d : PH.disj (PH.union h k) l) : PH.disj k l := PH.disj_of_le (PH.le_union_right hk) d

/-- An assertion on a part of a heap: of just that part. -/
abbrev HProp := PH → Prop
def emp : HProp := fun h => h = PH.none
def star (A B : HProp) : HProp := fun h => ∃ h1 h2, PH.disj h1 h2 ∧ h = PH.union h1 h2 ∧ A h1 ∧ B h2
def stars : List HProp → HProp
 | [] => emp
 | A :: l => star A (stars l)
/-- Block b is the object o. -/
def pts (b : Nat) (o : Obj) : HProp := fun h => h = PH.single b o
/-- Block b is a row of cells. -/
def blk (b : Nat) (l : List Value) (ty : TypeId) : HProp := pts b (.cells l.toArray ty (0, 0))
def fact (p : Prop) : HProp := fun h => p ∧ h = PH.none
def ex {α : Type} (A : α → HProp) : HProp := fun h => ∃ x, A x h

theorem star_comm {A B : HProp} {h : PH} (s : star A B h) : star B A h := by
 obtain ⟨h1, h2, d, rfl, a, b⟩ := s
 exact ⟨h2, h1, d.symm, PH.union_comm d, b, a⟩
theorem star_assoc {A B C : HProp} {h : PH} (s : star (star A B) C h) : star A (star B C) h := by
 obtain ⟨h12, h3, d, rfl, ⟨h1, h2, d', rfl, a, b⟩, c⟩ := s
 refine ⟨h1, PH.union h2 h3, ?_, PH.union_assoc _ _ _, a, h2, h3, PH.disj_union_right d' d, rfl, b, c⟩
 have := PH.disj_union_left d
 exact (PH.disj_union d'.symm this.symm).symm
theorem star_assoc' {A B C : HProp} {h : PH} (s : star A (star B C) h) : star (star A B) C h :=
 star_comm (star_assoc (star_comm (star_assoc (star_comm s))))
theorem star_mono {A A' B B' : HProp} {h : PH} (a : ∀ h, A h → A' h) (b : ∀ h, B h → B' h) (s : star A B h) : star A' B' h := by
 obtain ⟨h1, h2, d, rfl, x, y⟩ := s
 exact ⟨h1, h2, d, rfl, a _ x, b _ y⟩
theorem star_swap {A B C : HProp} {h : PH} (s : star A (star B C) h) : star B (star A C) h :=
 star_assoc (star_mono (fun _ x => star_comm x) (fun _ x => x) (star_assoc' s))
theorem star_emp {A : HProp} {h : PH} (a : A h) : star A emp h := ⟨h, PH.none, fun _ => .inr rfl, (PH.union_none h).symm, a, rfl⟩
theorem emp_star {A : HProp} {h : PH} (a : A h) : star emp A h := star_comm (star_emp a)
theorem of_emp_star {A : HProp} {h : PH} (a : star emp A h) : A h := by
 obtain ⟨h1, h2, d, rfl, e, a⟩ := a
 rw [show h1 = PH.none from e, PH.none_union]; exact a
theorem of_star_emp {A : HProp} {h : PH} (a : star A emp h) : A h := of_emp_star (star_comm a)

theorem stars_append {l m : List HProp} {h : PH} : stars (l ++ m) h ↔ star (stars l) (stars m) h := by
 induction l generalizing h with
 | nil => exact ⟨emp_star, of_emp_star⟩
 | cons A l ih =>
   constructor
   · intro s
     exact star_assoc' (star_mono (fun _ x => x) (fun _ x => ih.1 x) s)
   · intro s
     exact star_mono (fun _ x => x) (fun _ x => ih.2 x) (star_assoc s)
theorem stars_perm {l m : List HProp} (p : l.Perm m) : ∀ {h : PH}, stars l h → stars m h := by
 induction p with
 | nil => exact fun s => s
 | cons A _ ih => exact fun s => star_mono (fun _ x => x) (fun _ x => ih x) s
 | swap A B l => exact fun s => star_swap s
 | trans _ _ ih1 ih2 => exact fun s => ih2 (ih1 s)
theorem stars_one {A : HProp} {h : PH} : stars [A] h ↔ A h := ⟨of_star_emp, star_emp⟩

/-- The frame: what stays as it is, from the call's begin to its end. -/
structure Fr where
 h : PH
 os : Os
 tape : Nat → Question → Nat
 output : Array (Nat × ByteArray)
 drawn : Nat
/-- The world holds, apart from one another, what the list says, and the frame. -/
def Sat (S : List HProp) (F : Fr) (w : World) : Prop :=
 w.os = F.os ∧ w.tape = F.tape ∧ (w.output = F.output ∧ F.drawn ≤ w.drawn) ∧ PH.le F.h (hp w) ∧ ∃ h, stars S h ∧ PH.disj h F.h ∧ PH.le h (hp w)

theorem Sat.drew {S : List HProp} {F : Fr} {w : World} (s : Sat S F w) {n : Nat} (hn : w.drawn ≤ n) : Sat S F { w with drawn := n } := by
 obtain ⟨a, b, c, r⟩ := s
 exact ⟨a, b, ⟨c.1, Nat.le_trans c.2 hn⟩, r⟩
theorem Sat.perm {S S' : List HProp} {F : Fr} {w : World} (p : S.Perm S') (s : Sat S F w) : Sat S' F w := by
 obtain ⟨a, b, c, d, h, e, f, g⟩ := s
 exact ⟨a, b, c, d, h, stars_perm p e, f, g⟩
theorem Sat.mono {S S' : List HProp} {F : Fr} {w : World} (m : ∀ h, stars S h → ∃ h', PH.le h' h ∧ stars S' h') (s : Sat S F w) : Sat S' F w := by
 obtain ⟨a, b, c, d, h, e, f, g⟩ := s
 obtain ⟨h', l, e'⟩ := m h e
 exact ⟨a, b, c, d, h', e', PH.disj_of_le l f, l.trans g⟩
theorem Sat.head {A B : HProp} {S : List HProp} {F : Fr} {w : World} (m : ∀ h, A h → B h) (s : Sat (A :: S) F w) : Sat (B :: S) F w :=
 Sat.mono (S := A :: S) (fun h e => ⟨h, PH.le.refl h, star_mono m (fun _ x => x) e⟩) s
theorem Sat.drop {A : HProp} {S : List HProp} {F : Fr} {w : World} (s : Sat (A :: S) F w) : Sat S F w :=
 s.mono fun _ e => by obtain ⟨h1, h2, d, rfl, _, b⟩ := e; exact ⟨h2, PH.le_union_right d, b⟩
theorem Sat.ex {α : Type} {A : α → HProp} {S : List HProp} {F : Fr} {w : World} (s : Sat (ex A :: S) F w) : ∃ x, Sat (A x :: S) F w := by
 obtain ⟨a, b, c, d, h, ⟨h1, h2, e1, e2, ⟨x, e3⟩, e4⟩, f, g⟩ := s
 exact ⟨x, a, b, c, d, h, ⟨h1, h2, e1, e2, e3, e4⟩, f, g⟩
theorem Sat.fact {p : Prop} {S : List HProp} {F : Fr} {w : World} (s : Sat (fact p :: S) F w) : p ∧ Sat S F w := by
 obtain ⟨a, b, c, d, h, ⟨h1, h2, e1, rfl, ⟨e3, e5⟩, e4⟩, f, g⟩ := s
 subst e5
 rw [PH.none_union] at f g
 exact ⟨e3, a, b, c, d, h2, e4, f, g⟩
theorem Sat.split {A B : HProp} {S : List HProp} {F : Fr} {w : World} (s : Sat (star A B :: S) F w) : Sat (A :: B :: S) F w :=
 Sat.mono (S := star A B :: S) (fun h e => ⟨h, PH.le.refl h, star_assoc e⟩) s
theorem Sat.join {A B : HProp} {S : List HProp} {F : Fr} {w : World} (s : Sat (A :: B :: S) F w) : Sat (star A B :: S) F w :=
 Sat.mono (S := A :: B :: S) (fun h e => ⟨h, PH.le.refl h, star_assoc' e⟩) s
theorem Sat.flat {L S : List HProp} {F : Fr} {w : World} (s : Sat (stars L :: S) F w) : Sat (L ++ S) F w :=
 Sat.mono (S := stars L :: S) (fun h e => ⟨h, PH.le.refl h, stars_append.2 e⟩) s
theorem Sat.unflat {L S : List HProp} {F : Fr} {w : World} (s : Sat (L ++ S) F w) : Sat (stars L :: S) F w :=
 Sat.mono (S := L ++ S) (fun h e => ⟨h, PH.le.refl h, stars_append.1 e⟩) s

theorem single_self (b : Nat) (o : Obj) : PH.single b o b = some o := by simp [PH.single]
theorem single_eq {b c : Nat} {o p : Obj} (h : PH.single b o c = some p) : c = b ∧ p = o := by
 unfold PH.single at h
 split at h
 · exact ⟨by assumption, by simpa using h.symm⟩
 · cases h
/-- What the first atom says of its block. -/
theorem Sat.at {b : Nat} {o : Obj} {S : List HProp} {F : Fr} {w : World} (s : Sat (pts b o :: S) F w) : w.heap[b]? = some o := by
 obtain ⟨_, _, _, _, h, ⟨h1, h2, d, rfl, a, e⟩, f, g⟩ := s
 subst a
 exact g b o (PH.le_union_left b o (single_self b o))
theorem Sat.frame {S : List HProp} {F : Fr} {w : World} (s : Sat S F w) {b : Nat} {o : Obj} (h : F.h b = some o) : w.heap[b]? = some o := s.2.2.2.1 b o h
/-- A new block. -/
theorem Sat.new {S : List HProp} {F : Fr} {w : World} (s : Sat S F w) (o : Obj) : Sat (pts w.heap.size o :: S) F { w with heap := w.heap.push o } := by
 obtain ⟨a, b, c, d, h, e, f, g⟩ := s
 have hle : ∀ k : PH, PH.le k (hp w) → PH.le k (hp { w with heap := w.heap.push o }) := fun k hk x p hx => by
   have := hk x p hx
   unfold hp at this ⊢
   obtain ⟨hlt, rfl⟩ := Array.getElem?_eq_some_iff.1 this
   simp [Array.getElem?_push, Nat.ne_of_lt hlt]
 have hfresh : ∀ k : PH, PH.le k (hp w) → PH.disj (PH.single w.heap.size o) k := fun k hk x => by
   by_cases hx : x = w.heap.size
   · right
     cases hkx : k x with
     | none => rfl
     | some p =>
       have := hk x p hkx
       unfold hp at this
       rw [hx] at this
       simp at this
   · left; simp [PH.single, hx]
 refine ⟨a, b, c, hle _ d, PH.union (PH.single w.heap.size o) h, ⟨_, _, hfresh h g, rfl, rfl, e⟩, ?_, ?_⟩
 · exact PH.disj_union (hfresh _ d) f
 · refine PH.union_le ?_ (hle _ g)
   intro x p hx
   obtain ⟨rfl, rfl⟩ := single_eq hx
   simp [hp]
/-- The first atom's block is written. -/
theorem Sat.set {b : Nat} {o : Obj} {S : List HProp} {F : Fr} {w w' : World} (s : Sat (pts b o :: S) F w) (o' : Obj)
   (hos : w'.os = w.os) (ht : w'.tape = w.tape) (hou : w'.output = w.output ∧ w.drawn ≤ w'.drawn) (hb : w'.heap[b]? = some o')
   (hr : ∀ c, c ≠ b → w'.heap[c]? = w.heap[c]?) : Sat (pts b o' :: S) F w' := by
 obtain ⟨a1, a2, a3, d, h, ⟨h1, h2, dd, rfl, a, e⟩, f, g⟩ := s
 subst a
 have hne : ∀ k : PH, PH.disj (PH.single b o) k → k b = Option.none := fun k hk => by
   rcases hk b with h1 | h1
   · rw [single_self] at h1; cases h1
   · exact h1
 have hle : ∀ k : PH, PH.disj (PH.single b o) k → PH.le k (hp w) → PH.le k (hp w') := fun k hk hl x p hx => by
   have hxb : x ≠ b := by rintro rfl; rw [hne k hk] at hx; cases hx
   unfold hp
   rw [hr x hxb]
   exact hl x p hx
 have d1 : PH.disj (PH.single b o) F.h := PH.disj_union_left f
 have hdis : ∀ k : PH, PH.disj (PH.single b o) k → PH.disj (PH.single b o') k := fun k hk x => by
   by_cases hx : x = b
   · right; rw [hx]; exact hne k hk
   · left; simp [PH.single, hx]
 refine ⟨hos.trans a1, ht.trans a2, ⟨hou.1.trans a3.1, Nat.le_trans a3.2 hou.2⟩, hle _ d1 d, PH.union (PH.single b o') h2, ⟨_, _, hdis _ dd, rfl, rfl, e⟩, ?_, ?_⟩
 · exact PH.disj_union (hdis _ d1) (PH.disj_union_right dd f)
 · refine PH.union_le ?_ (hle _ dd (PH.le_union_right dd |>.trans g))
   intro x p hx
   obtain ⟨rfl, rfl⟩ := single_eq hx
   exact hb

/-- What a walk knows of the slots. -/
inductive Env where
 | nil
 | cons (t : Nat) (v : Value) (rest : Env)
def lk : Env → Nat → Option Value
 | .nil, _ => Option.none
 | .cons t v r, x => bif Nat.beq t x then some v else lk r x
def opv (G : Env) : Operand → Option Value
 | .tmp t => lk G t
 | .const v => some v
 | .global g => some (.pointer (some ⟨g, 0, Option.none⟩))
 | .func f => some (.func (.func f) #[] #[])
/-- The state of a walk. -/
structure St (N : Nat) (G : Env) (S : List HProp) (F : Fr) (a : Act) (w : World) : Prop where
 defers : a.defers = []
 size : a.tmps.size = N
 slots : ∀ t v, lk G t = some v → a.tmps[t]? = some v
 sat : Sat S F w

theorem St.eval {N : Nat} {G : Env} {S : List HProp} {F : Fr} {a : Act} {w : World} (s : St N G S F a w) {x : Operand} {v : Value} (h : opv G x = some v) : a.eval x = v := by
 cases x with
 | tmp t => simp only [opv] at h; simp [Act.eval, s.slots t v h]
 | const c => simpa [opv, Act.eval] using h
 | global g => simpa [opv, Act.eval] using h
 | func f => simpa [opv, Act.eval] using h
theorem lk_cons {t x : Nat} {u v : Value} {r : Env} (h : lk (.cons t u r) x = some v) : (t = x ∧ u = v) ∨ (t ≠ x ∧ lk r x = some v) := by
 unfold lk at h
 cases hb : Nat.beq t x with
 | true => left; rw [hb] at h; exact ⟨Nat.eq_of_beq_eq_true hb, by simpa using h⟩
 | false => right; rw [hb] at h; exact ⟨Nat.ne_of_beq_eq_false hb, by simpa using h⟩
theorem St.put {N : Nat} {G : Env} {S S' : List HProp} {F : Fr} {a : Act} {w w' : World} (s : St N G S F a w) {d : Nat} (hd : d < N) (v : Value) (s' : Sat S' F w') :
   St N (.cons d v G) S' F (a.put (some d) v) w' := by
 refine ⟨s.defers, by simpa [Act.put] using s.size, fun t u h => ?_, s'⟩
 simp only [Act.put]
 rcases lk_cons h with ⟨rfl, rfl⟩ | ⟨hne, h'⟩
 · rw [Array.getElem?_setIfInBounds]; simp [s.size, hd]
 · rw [Array.getElem?_setIfInBounds]; simp [hne, s.slots _ _ h']
theorem St.weaken {N : Nat} {G G' : Env} {S : List HProp} {F : Fr} {a : Act} {w : World} (s : St N G S F a w) (h : ∀ t v, lk G' t = some v → lk G t = some v) : St N G' S F a w :=
 ⟨s.defers, s.size, fun t v e => s.slots t v (h t v e), s.sat⟩
theorem St.world {N : Nat} {G : Env} {S S' : List HProp} {F : Fr} {a : Act} {w w' : World} (s : St N G S F a w) (s' : Sat S' F w') : St N G S' F a w' :=
 ⟨s.defers, s.size, s.slots, s'⟩
/-- The slots of the second list, as the first has them. -/
def Env.agree (G : Env) : Env → Prop
 | .nil => True
 | .cons t v r => lk G t = some v ∧ Env.agree G r
theorem St.env {N : Nat} {G G' : Env} {S : List HProp} {F : Fr} {a : Act} {w : World} (s : St N G S F a w) (h : G.agree G') : St N G' S F a w := by
 refine s.weaken ?_
 induction G' with
 | nil => intro t v e; cases e
 | cons t u r ih =>
   intro x v e
   rcases lk_cons e with ⟨rfl, rfl⟩ | ⟨_, e'⟩
   · exact h.1
   · exact ih h.2 x v e'
end Slb

/- Base 2: a region that draws its order, taken to one order: quiet operations as soon as they may be, and looked at again behind each effect. -/
namespace Slb
open Go

section congr
theorem map_eval_congr {ρ ρ' : Operand → Value} {xs : Array Operand} (h : ∀ x ∈ xs.toList, ρ x = ρ' x) : xs.map ρ = xs.map ρ' :=
 Array.map_congr_left fun x hx => h x (Array.mem_toList_iff.2 hx)
theorem map_parts_congr {ρ ρ' : Operand → Value} {xs : Array (Nat × Operand)} (h : ∀ x ∈ ((xs.toList.map (·.2)).toArray).toList, ρ x = ρ' x) :
   (xs.map fun (i, x) => (i, ρ x)) = xs.map fun (i, x) => (i, ρ' x) :=
 Array.map_congr_left fun x hx => by
   have := h x.2 (by simp only [List.mem_map]; exact ⟨x, Array.mem_toList_iff.2 hx, rfl⟩)
   simp [this]
theorem opt_map_congr {ρ ρ' : Operand → Value} {x : Option Operand} (h : ∀ y ∈ x.toArray.toList, ρ y = ρ' y) : x.map ρ = x.map ρ' := by
 cases x with
 | none => rfl
 | some y => simp [h y (by simp)]
end congr

/-- What an operation that is not a region's end does: its value and the world go on; no way out but this. -/
def EStep (P : Program) (o : Oper) (a : Act) (w : World) (next : Value → World → Prop) : Prop :=
 match (execOp a.eval o).run P w with
 | .ok (.value v) w' => next v w'
 | .ok .skip w' => next undef w'
 | .ok (.enter f args) w' => Calls P f args w' fun
     | .returned v, w'' => next v w''
     | _, _ => False
 | .ok (.row row args) w' => Rows P row args w' next
 | _ => False
theorem EStep.wp {P : Program} {o : Oper} {a : Act} {w : World} {next : Value → World → Prop} {K : Act → World → Prop} {Q : Exit → Act → World → Prop}
   (h : EStep P o a w next) (hk : ∀ v w', next v w' → K (a.put o.dst v) w') : o.wp P a w K Q := by
 unfold EStep at h
 unfold Oper.wp Oper.upon
 split at h
 · rename_i hr; rw [hr]; exact hk _ _ h
 · rename_i hr; rw [hr]; exact hk _ _ h
 · rename_i hr; rw [hr]
   refine Calls.mono h fun e w' r => ?_
   cases e with
   | returned v => exact hk _ _ r
   | panicked c => exact r.elim
   | outgrown => exact r.elim
 · rename_i hr; rw [hr]
   exact Rows.mono h fun v w' r => hk _ _ r
 · exact h.elim
theorem EStep.mono {P : Program} {o : Oper} {a : Act} {w : World} {next next' : Value → World → Prop}
   (h : EStep P o a w next) (hk : ∀ v w', next v w' → next' v w') : EStep P o a w next' := by
 unfold EStep at h ⊢
 split at h
 · exact hk _ _ h
 · exact hk _ _ h
 · refine Calls.mono h fun e w' r => ?_
   cases e with
   | returned v => exact hk _ _ r
   | panicked c => exact r.elim
   | outgrown => exact r.elim
 · exact Rows.mono h fun v w' r => hk _ _ r
 · exact h.elim

/-- Two frames that agree on what an operation names do the same with it. -/
theorem execOp_congr {ρ ρ' : Operand → Value} {o : Oper} (h : ∀ x ∈ o.op.operands.toList, ρ x = ρ' x) : execOp ρ o = execOp ρ' o := by
 unfold execOp
 cases ho : o.op with
 | call c =>
   rw [ho] at h
   have ha : c.args.map ρ = c.args.map ρ' := map_eval_congr fun x hx => h x (by simp [Op.operands, Call.operands, hx])
   have hc : resolve ρ c o.type = resolve ρ' c o.type := by
     unfold resolve
     simp only [ha]
     cases hcl : c.callee with
     | value f => simp only; rw [h f (by simp [Op.operands, Call.operands, hcl])]
     | invoke r m => simp only; rw [h r (by simp [Op.operands, Call.operands, hcl])]
     | builtin b => rfl
   simp only [hc]
 | go c =>
   rw [ho] at h
   have ha : c.args.map ρ = c.args.map ρ' := map_eval_congr fun x hx => h x (by simp [Op.operands, Call.operands, hx])
   have hc : resolve ρ c o.type = resolve ρ' c o.type := by
     unfold resolve
     simp only [ha]
     cases hcl : c.callee with
     | value f => simp only; rw [h f (by simp [Op.operands, Call.operands, hcl])]
     | invoke r m => simp only; rw [h r (by simp [Op.operands, Call.operands, hcl])]
     | builtin b => rfl
   simp only [hc]
 | defer c =>
   rw [ho] at h
   have ha : c.args.map ρ = c.args.map ρ' := map_eval_congr fun x hx => h x (by simp [Op.operands, Call.operands, hx])
   have hc : resolve ρ c o.type = resolve ρ' c o.type := by
     unfold resolve
     simp only [ha]
     cases hcl : c.callee with
     | value f => simp only; rw [h f (by simp [Op.operands, Call.operands, hcl])]
     | invoke r m => simp only; rw [h r (by simp [Op.operands, Call.operands, hcl])]
     | builtin b => rfl
   simp only [hc]
 | select cs b =>
   rw [ho] at h
   have : (fun s : SelectCase => (do pure { chan := ρ s.chan, send := s.send.map ρ, zero := ← zeroValue s.elem : CommCase } : Sem CommCase)) = (fun s : SelectCase => (do pure { chan := ρ s.chan, send := s.send.map ρ, zero := ← zeroValue s.elem : CommCase } : Sem CommCase)) := rfl
   have hcs : ∀ s ∈ cs.toList, (do pure { chan := ρ s.chan, send := s.send.map ρ, zero := ← zeroValue s.elem : CommCase } : Sem CommCase) = (do pure { chan := ρ' s.chan, send := s.send.map ρ', zero := ← zeroValue s.elem : CommCase } : Sem CommCase) := by
     intro s hs
     have h1 : ρ s.chan = ρ' s.chan := h _ (by simp only [Op.operands]; rw [Array.mem_toList_iff, Array.mem_flatMap]; exact ⟨s, Array.mem_toList_iff.1 hs, by simp⟩)
     have h2 : s.send.map ρ = s.send.map ρ' := opt_map_congr fun y hy => h _ (by simp only [Op.operands]; rw [Array.mem_toList_iff, Array.mem_flatMap]; exact ⟨s, Array.mem_toList_iff.1 hs, by rw [Array.mem_append]; exact .inr (Array.mem_toList_iff.1 hy)⟩)
     rw [h1, h2]
   have : cs.mapM (fun s : SelectCase => (do pure { chan := ρ s.chan, send := s.send.map ρ, zero := ← zeroValue s.elem : CommCase } : Sem CommCase)) = cs.mapM (fun s : SelectCase => (do pure { chan := ρ' s.chan, send := s.send.map ρ', zero := ← zeroValue s.elem : CommCase } : Sem CommCase)) := by
     rw [Array.mapM_eq_mapM_toList, Array.mapM_eq_mapM_toList]
     congr 1
     generalize cs.toList = l at hcs
     induction l with
     | nil => rfl
     | cons s l ih =>
       rw [List.mapM_cons, List.mapM_cons, hcs s (by simp), ih fun s' hs' => hcs s' (by simp [hs'])]
   simp only [this]
 | build t ps => rw [ho] at h; simp only [map_parts_congr (ρ := ρ) (ρ' := ρ') (xs := ps) h]
 | buildSlice t n ps => rw [ho] at h; simp only [map_parts_congr (ρ := ρ) (ρ' := ρ') (xs := ps) h]
 | makeFunc fn x y =>
   rw [ho] at h
   simp only [map_eval_congr (ρ := ρ) (ρ' := ρ') (xs := x) (fun z hz => h z (by simp [Op.operands, hz])), map_eval_congr (ρ := ρ) (ρ' := ρ') (xs := y) (fun z hz => h z (by simp [Op.operands, hz]))]
 | makeMap t r => rw [ho] at h; simp only [opt_map_congr (ρ := ρ) (ρ' := ρ') (x := r) h]
 | slice t x l hi m =>
   rw [ho] at h
   simp only [h x (by simp [Op.operands]), opt_map_congr (ρ := ρ) (ρ' := ρ') (x := l) (fun z hz => h z (by simp only [Op.operands]; simp at hz ⊢; simp [hz])),
     opt_map_congr (ρ := ρ) (ρ' := ρ') (x := hi) (fun z hz => h z (by simp only [Op.operands]; simp at hz ⊢; simp [hz])),
     opt_map_congr (ρ := ρ) (ρ' := ρ') (x := m) (fun z hz => h z (by simp only [Op.operands]; simp at hz ⊢; simp [hz]))]
 | send a b => rw [ho] at h; simp only [h a (by simp [Op.operands]), h b (by simp [Op.operands])]
 | recv t a ok => rw [ho] at h; simp only [h a (by simp [Op.operands])]
 | alloc _ | ready _ | waits _ => rfl
 | move x | assign x | box _ x | load _ x | nilCheck x | unOp _ _ x | convert _ _ x | sliceToArrayPointer _ x | makeInterface _ x | fieldAddr _ x _ | field _ x _ | range _ x | next x _ | entry x | typeAssert x _ _ _ | extract x _ | panic x | makeChan _ x =>
   rw [ho] at h
   simp only [h x (by simp [Op.operands])]
 | pick x y z => rw [ho] at h; simp only [h x (by simp [Op.operands]), h y (by simp [Op.operands]), h z (by simp [Op.operands])]
 | store _ x y | binOp _ _ x y _ | makeSlice _ x y | indexAddr _ x y | index _ x y | lookup _ x y _ | mapEntry _ x y =>
   rw [ho] at h
   simp only [h x (by simp [Op.operands]), h y (by simp [Op.operands])]
 | mapUpdate _ x y z | entryStore _ x y z | insert _ x y z => rw [ho] at h; simp only [h x (by simp [Op.operands]), h y (by simp [Op.operands]), h z (by simp [Op.operands])]


/-- Does an operation name slot d? -/
def names (o : Oper) (d : Tmp) : Bool := o.op.operands.toList.any fun | .tmp t => Nat.beq t d | _ => false
theorem names_of {o : Oper} {d : Tmp} (h : Operand.tmp d ∈ o.op.operands.toList) : names o d = true := by
 unfold names
 rw [List.any_eq_true]
 exact ⟨_, h, by simp⟩
def bef (M : List Nat) (i j : Nat) : Bool := (M.getD j 0).testBit i
/-- The edges that bind where the two orders are mixed. -/
def aft (o : Oper) : List Edge := o.after.toList.filter (Region.binds .any)
/-- The masks: which operations stand ahead of each (a guess that 'regOk' looks at). -/
def masks (ops : Array Oper) : List Nat :=
 ops.toList.foldl (fun acc o => acc ++ [(aft o).foldl (fun m e => m ||| (2 ^ e.on ||| acc.getD e.on 0)) 0]) []
/-- What is asked of a region once: q: the quiet operations (a mask). -/
def regOk0 (ops : Array Oper) (q : Nat) (M : List Nat) : Bool :=
 (List.range ops.size).all fun j => match ops[j]? with
   | none => false
   | some o =>
     ((aft o).all fun e => decide (e.on < j)) &&
     ((List.range ops.size).all fun i => !bef M i j || (aft o).any fun e => Nat.beq e.on i || bef M i e.on) &&
     (match o.guard with | none => true | some (g, _) => q.testBit g && (aft o).any fun e => Nat.beq e.on g) &&
     (!q.testBit j || match o.dst with
       | none => false
       | some d => (List.range ops.size).all fun k => match ops[k]? with
         | none => false
         | some p => (Nat.beq k j || !(p.dst == some d)) && (!names p d || bef M j k) &&
           (q.testBit k || match p.dst with | none => true | some t => !names o t || bef M k j || bef M j k))

def regOk (ops : Array Oper) (q : Nat) (M : List Nat) : Bool := !Region.departs ops && regOk0 ops q M
structure RegOk (ops : Array Oper) (q : Nat) (M : List Nat) : Prop where
 back : ∀ (j : Nat) (o : Oper), ops[j]? = some o → ∀ e ∈ aft o, e.on < j
 ahead : ∀ (i j : Nat) (o : Oper), ops[j]? = some o → i < ops.size → bef M i j = true → ∃ e ∈ aft o, e.on = i ∨ bef M i e.on = true
 guard : ∀ (j : Nat) (o : Oper) (g : Nat) (b : Bool), ops[j]? = some o → o.guard = some (g, b) → q.testBit g = true ∧ ∃ e ∈ aft o, e.on = g
 dst : ∀ (j : Nat) (o : Oper), ops[j]? = some o → q.testBit j = true → ∃ d, o.dst = some d ∧ ∀ (k : Nat) (p : Oper), ops[k]? = some p →
   (k ≠ j → p.dst ≠ some d) ∧ (names p d = true → bef M j k = true) ∧
   (q.testBit k = false → ∀ t, p.dst = some t → names o t = true → bef M k j = true ∨ bef M j k = true)

theorem lt_of_get {α : Type} {xs : Array α} {i : Nat} {x : α} (h : xs[i]? = some x) : i < xs.size := (Array.getElem?_eq_some_iff.1 h).1

theorem regOk_of {ops : Array Oper} {q : Nat} {M : List Nat} (h : regOk0 ops q M = true) : RegOk ops q M := by
 unfold regOk0 at h
 rw [List.all_eq_true] at h
 have h1 := h
 have key : ∀ j o, ops[j]? = some o → _ := fun j o ho => by
   have := h1 j (List.mem_range.2 (lt_of_get ho))
   rw [ho] at this
   exact this
 simp only [Bool.and_eq_true, List.all_eq_true] at key
 refine ⟨fun j o ho e he => ?_, fun i j o ho hi hb => ?_, fun j o g b ho hg => ?_, fun j o ho hq => ?_⟩
 · have := (key j o ho).1.1.1 e he
   simpa using this
 · have := (key j o ho).1.1.2 i (List.mem_range.2 hi)
   rw [hb] at this
   simp only [Bool.not_true, Bool.false_or, List.any_eq_true, Bool.or_eq_true] at this
   obtain ⟨e, he, h2⟩ := this
   exact ⟨e, he, h2.imp Nat.eq_of_beq_eq_true id⟩
 · have := (key j o ho).1.2
   rw [hg] at this
   simp only [Bool.and_eq_true, List.any_eq_true] at this
   obtain ⟨h2, e, he, h3⟩ := this
   exact ⟨h2, e, he, Nat.eq_of_beq_eq_true h3⟩
 · have := (key j o ho).2
   rw [hq] at this
   simp only [Bool.not_true, Bool.false_or] at this
   split at this
   · cases this
   · rename_i d hd
     refine ⟨d, hd, fun k p hp => ?_⟩
     rw [List.all_eq_true] at this
     have := this k (List.mem_range.2 (lt_of_get hp))
     rw [hp] at this
     simp only [Bool.and_eq_true] at this
     obtain ⟨⟨a1, a2⟩, a3⟩ := this
     refine ⟨fun hk hpd => ?_, fun hn => ?_, fun hqk t ht hn => ?_⟩
     · rw [hpd] at a1
       simp at a1
       exact hk a1
     · rw [hn] at a2; simpa using a2
     · rw [hqk, ht] at a3
       simpa [hn] using a3

/-- An operation whose guard says no. -/
def wants (ops : Array Oper) (o : Oper) (a : Act) : Bool := Region.wanted o (yielded ops a.tmps)

/-- Behind effect i: what was read, and does not stand ahead of i, still reads so. -/
def Again (P : Program) (ops : Array Oper) (M : List Nat) (q r : Nat) (D : List Nat) (i : Nat) (a : Act) (w : World) : Prop :=
 ∀ j ∈ D, q.testBit j = true → r.testBit j = true → bef M j i = false → ∀ o, ops[j]? = some o → wants ops o a = true →
   ∃ d v, o.dst = some d ∧ a.tmps[d]? = some v ∧ (execOp a.eval o).run P w = .ok (.value v) w

/-- All of an operation's edges lead to what is done. -/
def ready (o : Oper) (D : List Nat) : Prop := ∀ e ∈ aft o, e.on ∈ D

structure Clos (P : Program) (ops : Array Oper) (M : List Nat) (q r : Nat) (Q : Act → World → Prop) (X : List Nat → Act → World → Prop) : Prop where
 done : ∀ D a w, (∀ i, i < ops.size → i ∈ D) → Q a w → X D a w
 quiet : ∀ D a w i o d v, ops[i]? = some o → i ∉ D → q.testBit i = true → ready o D → wants ops o a = true → o.dst = some d → d < a.tmps.size →
   ((r.testBit i = false ∧ ∀ w', (execOp a.eval o).run P w' = .ok (.value v) w') ∨ (r.testBit i = true ∧ (execOp a.eval o).run P w = .ok (.value v) w)) →
   X (i :: D) (a.put (some d) v) w → X D a w
 skip : ∀ D a w i o d, ops[i]? = some o → i ∉ D → q.testBit i = true → ready o D → wants ops o a = false → o.dst = some d → d < a.tmps.size →
   X (i :: D) (a.put (some d) undef) w → X D a w
 effs : ∀ D a w, (∃ i, i < ops.size ∧ i ∉ D) →
   (∀ i o, ops[i]? = some o → i ∉ D → ready o D → q.testBit i = false ∧
     (wants ops o a = true → EStep P o a w fun v w' => Again P ops M q r D i (a.put o.dst v) w' ∧ X (i :: D) (a.put o.dst v) w') ∧
     (wants ops o a = false → X (i :: D) (a.put o.dst undef) w)) → X D a w
/-- A region's walk: the least such. -/
def RW (P : Program) (ops : Array Oper) (M : List Nat) (q r : Nat) (Q : Act → World → Prop) (D : List Nat) (a : Act) (w : World) : Prop :=
 ∀ X, Clos P ops M q r Q X → X D a w
theorem RW.clos (P : Program) (ops : Array Oper) (M : List Nat) (q r : Nat) (Q : Act → World → Prop) : Clos P ops M q r Q (RW P ops M q r Q) where
 done D a w h hq := fun X hX => hX.done D a w h hq
 quiet D a w i o d v h1 h2 h3 h4 h5 h6 h7 h8 h9 := fun X hX => hX.quiet D a w i o d v h1 h2 h3 h4 h5 h6 h7 h8 (h9 X hX)
 skip D a w i o d h1 h2 h3 h4 h5 h6 h7 h9 := fun X hX => hX.skip D a w i o d h1 h2 h3 h4 h5 h6 h7 (h9 X hX)
 effs D a w h0 h := fun X hX => hX.effs D a w h0 fun i o h1 h2 h3 => by
   obtain ⟨a1, a2, a3⟩ := h i o h1 h2 h3
   have a2' := fun hw => (a2 hw).mono fun v w' (x : _ ∧ RW P ops M q r Q (i :: D) (a.put o.dst v) w') => (⟨x.1, x.2 X hX⟩ : _ ∧ X (i :: D) (a.put o.dst v) w')
   exact ⟨a1, a2', fun hw => a3 hw X hX⟩

def Lst (n : Nat) (L : Array Bool) (i : Nat) : Prop := i < n ∧ L[i]? = some true

structure Rel (P : Program) (ops : Array Oper) (M : List Nat) (q r : Nat) (D : List Nat) (L : Array Bool) (aA aV : Act) (w : World) : Prop where
 dfr : aA.defers = aV.defers
 sz : aA.tmps.size = aV.tmps.size
 lsz : L.size = ops.size
 sub : ∀ i, Lst ops.size L i → i ∈ D
 clD : ∀ i ∈ D, ∀ o, ops[i]? = some o → ready o D
 clS : ∀ i, Lst ops.size L i → ∀ o, ops[i]? = some o → ∀ e ∈ aft o, Lst ops.size L e.on
 slot : ∀ t, (∀ j ∈ D, ¬ Lst ops.size L j → ∀ o, ops[j]? = some o → o.dst ≠ some t) → aA.tmps[t]? = aV.tmps[t]?
 pend : ∀ j ∈ D, ¬ Lst ops.size L j → ∃ o d v, ops[j]? = some o ∧ q.testBit j = true ∧ o.dst = some d ∧ aV.tmps[d]? = some v ∧
   (wants ops o aV = true → (r.testBit j = false ∧ ∀ w', (execOp aV.eval o).run P w' = .ok (.value v) w') ∨ (r.testBit j = true ∧ (execOp aV.eval o).run P w = .ok (.value v) w)) ∧
   (wants ops o aV = false → v = undef)

section
variable {P : Program} {ops : Array Oper} {M : List Nat} {q r : Nat}

/-- What stands ahead of an operation whose edges lead into a closed set lies in it. -/
theorem ahead_in (ok : RegOk ops q M) (C : Nat → Prop) (hC : ∀ i, C i → ∀ o, ops[i]? = some o → ∀ e ∈ aft o, C e.on) (j : Nat) :
   ∀ o, ops[j]? = some o → (∀ e ∈ aft o, C e.on) → ∀ i, i < ops.size → bef M i j = true → C i := by
 induction j using Nat.strongRecOn with
 | _ j ih =>
   intro o ho hd i hi hb
   obtain ⟨e, he, h | h⟩ := ok.ahead i j o ho hi hb
   · rw [← h]; exact hd e he
   · have hlt := ok.back j o ho e he
     obtain ⟨p, hp⟩ : ∃ p, ops[e.on]? = some p := ⟨_, Array.getElem?_eq_getElem (Nat.lt_trans hlt (lt_of_get ho))⟩
     exact ih e.on hlt p hp (hC e.on (hd e he) p hp) i hi h

theorem yielded_eq {a a' : Act} {g : Nat} {p : Oper} (hp : ops[g]? = some p) {d : Nat} (hd : p.dst = some d) (h : a.tmps[d]? = a'.tmps[d]?) :
   yielded ops a.tmps g = yielded ops a'.tmps g := by
 unfold yielded
 simp [hp, hd, h]
theorem wants_eq (ok : RegOk ops q M) {a a' : Act} {j : Nat} {o : Oper} (ho : ops[j]? = some o)
   (h : ∀ g b p d, o.guard = some (g, b) → ops[g]? = some p → p.dst = some d → a.tmps[d]? = a'.tmps[d]?) : wants ops o a = wants ops o a' := by
 unfold wants Region.wanted
 cases hg : o.guard with
 | none => rfl
 | some gb =>
   obtain ⟨g, b⟩ := gb
   obtain ⟨hq, e, he, hge⟩ := ok.guard j o g b ho hg
   have hlt := ok.back j o ho e he
   obtain ⟨p, hp⟩ : ∃ p, ops[g]? = some p := ⟨_, Array.getElem?_eq_getElem (by rw [← hge]; exact Nat.lt_trans hlt (lt_of_get ho))⟩
   obtain ⟨d, hd, _⟩ := ok.dst g p hp hq
   simp only [yielded_eq hp hd (h g b p d hg hp hd)]

theorem eval_congr {a a' : Act} {o : Oper} (h : ∀ t, names o t = true → a.tmps[t]? = a'.tmps[t]?) : execOp a.eval o = execOp a'.eval o := by
 refine execOp_congr fun x hx => ?_
 cases x with
 | tmp t => simp [Act.eval, h t (names_of hx)]
 | const c => rfl
 | global g => rfl
 | func f => rfl

theorem put_ne {a : Act} {d t : Nat} {v : Value} (h : d ≠ t) : (a.put (some d) v).tmps[t]? = a.tmps[t]? := by
 simp [Act.put, h]
theorem put_ne' {a : Act} {o : Option Nat} {t : Nat} {v : Value} (h : o ≠ some t) : (a.put o v).tmps[t]? = a.tmps[t]? := by
 cases o with
 | none => rfl
 | some d => exact put_ne fun e => h (by rw [e])
theorem put_self {a : Act} {d : Nat} {v : Value} (h : d < a.tmps.size) : (a.put (some d) v).tmps[d]? = some v := by
 simp [Act.put, h]
theorem put_size {a : Act} {o : Option Nat} {v : Value} : (a.put o v).tmps.size = a.tmps.size := by cases o <;> simp [Act.put]
theorem put_defers {a : Act} {o : Option Nat} {v : Value} : (a.put o v).defers = a.defers := by cases o <;> rfl

/-- In the true frame an operation that may come next sees what it sees in the other. -/
theorem Rel.same (ok : RegOk ops q M) {D : List Nat} {L : Array Bool} {aA aV : Act} {w : World} (R : Rel P ops M q r D L aA aV w)
   {i : Nat} {o : Oper} (ho : ops[i]? = some o) (hr : ∀ e ∈ aft o, Lst ops.size L e.on) : execOp aA.eval o = execOp aV.eval o ∧ wants ops o aA = wants ops o aV := by
 constructor
 · refine eval_congr fun t ht => R.slot t fun j hj hjl p hp hd => hjl ?_
   obtain ⟨p', d, v, hp', hqj, hd', _⟩ := R.pend j hj hjl
   rw [hp] at hp'; cases hp'
   obtain ⟨d2, hd2, h⟩ := ok.dst j p hp hqj
   rw [hd] at hd2; cases hd2
   exact ahead_in ok _ R.clS i o ho hr j (lt_of_get hp) ((h i o ho).2.1 ht)
 · refine wants_eq ok ho fun g b p d hg hp hd => R.slot d fun j hj hjl p' hp' hd' => ?_
   obtain ⟨hqg, e, he, hge⟩ := ok.guard i o g b ho hg
   obtain ⟨d2, hd2, h⟩ := ok.dst g p hp hqg
   rw [hd] at hd2; cases hd2
   by_cases hjg : j = g
   · exact hjl (by rw [hjg, ← hge]; exact hr e he)
   · exact ((h j p' hp').1 hjg) hd'

theorem lst_set {n : Nat} {L : Array Bool} (hn : L.size = n) {i j : Nat} (hi : i < n) : Lst n (L.setIfInBounds i true) j ↔ j = i ∨ Lst n L j := by
 unfold Lst
 rw [Array.getElem?_setIfInBounds]
 by_cases h : i = j
 · subst h
   simp only [hn, hi, if_true]
   simp
 · simp only [if_neg h]
   constructor
   · exact fun h' => .inr h'
   · rintro (h' | h')
     · exact absurd h'.symm h
     · exact h'

/-- A quiet operation that was done ahead of its time is done. -/
theorem Rel.step_pend (ok : RegOk ops q M) {D : List Nat} {L : Array Bool} {aA aV : Act} {w : World} (R : Rel P ops M q r D L aA aV w)
   {i : Nat} {o : Oper} (ho : ops[i]? = some o) (hr : ∀ e ∈ aft o, Lst ops.size L e.on) (hi : i ∈ D) (hl : ¬ Lst ops.size L i) {Q : Exit → Act → World → Prop} {rest : List Nat}
   (h : ∀ v, Rel P ops M q r D (L.setIfInBounds i true) (aA.put o.dst v) aV w → wpOps P ops Q rest (aA.put o.dst v) w) : wpOps P ops Q (i :: rest) aA w := by
 obtain ⟨p, d, v, hp, hq, hd, hv, h1, h2⟩ := R.pend i hi hl
 rw [ho] at hp; cases hp
 obtain ⟨hs, hw⟩ := R.same ok ho hr
 have hdl : d < aA.tmps.size := by rw [R.sz]; exact lt_of_get hv
 have hin := lt_of_get ho
 have hset := fun j => lst_set (j := j) R.lsz hin
 have R' : Rel P ops M q r D (L.setIfInBounds i true) (aA.put o.dst v) aV w := by
   refine ⟨by rw [put_defers]; exact R.dfr, by rw [put_size]; exact R.sz, by simpa using R.lsz, fun j hj => ?_, R.clD, fun j hj p hp e he => ?_, fun t ht => ?_, fun j hj hjl => ?_⟩
   · rcases (hset j).1 hj with rfl | h'
     · exact hi
     · exact R.sub j h'
   · rw [hset]
     rcases (hset j).1 hj with rfl | h'
     · rw [ho] at hp; cases hp; exact .inr (hr e he)
     · exact .inr (R.clS j h' p hp e he)
   · rw [hd]
     by_cases htd : d = t
     · subst htd; rw [put_self hdl, hv]
     · rw [put_ne htd]
       refine R.slot t fun j hj hjl p hp => ?_
       by_cases hji : j = i
       · subst hji; rw [ho] at hp; cases hp; rw [hd]; simpa using htd
       · exact ht j hj (fun hc => (((hset j).1 hc).resolve_left hji) |> hjl) p hp
   · exact R.pend j hj fun hc => hjl ((hset j).2 (.inr hc))
 have hgoal := h v R'
 simp only [wpOps, ho]
 change if wants ops o aA = true then _ else _
 rw [hw]
 by_cases hwant : wants ops o aV = true
 · rw [if_pos hwant]
   refine .inl ?_
   unfold Oper.wp
   rw [hs]
   have hrun : (execOp aV.eval o).run P w = .ok (.value v) w := by
     rcases h1 hwant with ⟨_, hh⟩ | ⟨_, hh⟩
     · exact hh w
     · exact hh
   rw [hrun, Oper.upon_value]
   exact hgoal
 · rw [if_neg hwant]
   have := h2 (by simpa using hwant)
   rw [this] at hgoal
   exact hgoal
end

/-- The schedule, step by step. -/
def goRest (ops : Array Oper) : Nat → Nat → Array Bool → List Nat
 | 0, _, _ => []
 | fuel + 1, t, L =>
   let rs := (List.range ops.size).filter fun i =>
     !L.getD i true && ((ops[i]?).map (·.after.all fun e => !Region.binds .any e || L.getD e.on false)).getD false
   match rs[t % rs.length]? with
   | some i => i :: goRest ops fuel (t / rs.length) (L.setIfInBounds i true)
   | none => []
theorem go_eq (ops : Array Oper) : ∀ fuel t L acc, Region.linearise.go .any ops fuel t L acc = acc.reverse ++ goRest ops fuel t L := by
 intro fuel
 induction fuel with
 | zero => intro t L acc; simp [Region.linearise.go, goRest]
 | succ n ih =>
   intro t L acc
   unfold Region.linearise.go goRest
   dsimp only
   generalize List.filter _ (List.range ops.size) = rs
   cases rs[t % rs.length]? with
   | none => simp
   | some i => simp [ih]
/-- How many are not listed yet. -/
def lack (n : Nat) (L : Array Bool) : Nat := ((List.range n).filter fun i => !L.getD i true).length
theorem lack_set {n : Nat} {L : Array Bool} (hn : L.size = n) {i : Nat} (hi : i < n) (hl : L.getD i true = false) : lack n (L.setIfInBounds i true) < lack n L := by
 unfold lack
 have hsub : ∀ l : List Nat, l.Nodup → i ∈ l → (l.filter fun j => !(L.setIfInBounds i true).getD j true).length < (l.filter fun j => !L.getD j true).length := by
   have hle : ∀ l : List Nat, (l.filter fun j => !(L.setIfInBounds i true).getD j true).length ≤ (l.filter fun j => !L.getD j true).length := by
     intro l
     induction l with
     | nil => simp
     | cons x l ih =>
       by_cases hx : x = i
       · subst hx
         have : (L.setIfInBounds x true).getD x true = true := by simp [Array.getD_eq_getD_getElem?, hn, hi]
         simp only [List.filter_cons, this, Bool.not_true, hl, Bool.not_false, if_true, Bool.false_eq_true, if_false]
         simp only [List.length_cons]; omega
       · have : (L.setIfInBounds i true).getD x true = L.getD x true := by
           simp [Array.getD_eq_getD_getElem?, Array.getElem?_setIfInBounds_ne (Ne.symm hx)]
         simp only [List.filter_cons, this]
         split <;> (try simp only [List.length_cons]) <;> omega
   intro l
   induction l with
   | nil => intro _ h; cases h
   | cons x l ih =>
     intro hnd hm
     by_cases hx : x = i
     · subst hx
       have : (L.setIfInBounds x true).getD x true = true := by simp [Array.getD_eq_getD_getElem?, hn, hi]
       simp only [List.filter_cons, this, Bool.not_true, hl, Bool.not_false, if_true, Bool.false_eq_true, if_false]
       have := hle l
       simp only [List.length_cons]; omega
     · have : (L.setIfInBounds i true).getD x true = L.getD x true := by
         simp [Array.getD_eq_getD_getElem?, Array.getElem?_setIfInBounds_ne (Ne.symm hx)]
       simp only [List.filter_cons, this]
       have := ih (List.nodup_cons.1 hnd).2 ((List.mem_cons.1 hm).resolve_left (Ne.symm hx))
       split <;> (try simp only [List.length_cons]) <;> omega
 exact hsub _ List.nodup_range (List.mem_range.2 hi)

section
variable {P : Program} {ops : Array Oper} {M : List Nat} {q r : Nat}
theorem getD_lst {L : Array Bool} {i : Nat} (h : L.getD i false = true) (n : i < L.size) : Lst L.size L i := by
 refine ⟨n, ?_⟩
 simp only [Array.getD_eq_getD_getElem?] at h
 cases e : L[i]? with
 | none => rw [e] at h; cases h
 | some b => rw [e] at h; simp at h; rw [h]
theorem not_lst {L : Array Bool} {n i : Nat} (h : L.getD i true = false) : ¬ Lst n L i := by
 rintro ⟨_, h'⟩
 simp [Array.getD_eq_getD_getElem?, h'] at h
/-- The schedule's next step. -/
theorem rest_cases (ok : RegOk ops q M) {L : Array Bool} (hn : L.size = ops.size) (fuel t : Nat) (hf : lack ops.size L ≤ fuel) :
   (goRest ops fuel t L = [] ∧ ∀ i, i < ops.size → Lst ops.size L i) ∨
   ∃ i o fuel' t', ops[i]? = some o ∧ L.getD i true = false ∧ (∀ e ∈ aft o, Lst ops.size L e.on) ∧ goRest ops fuel t L = i :: goRest ops fuel' t' (L.setIfInBounds i true) ∧ fuel = fuel' + 1 := by
 by_cases hall : ∀ i, i < ops.size → L.getD i true = true
 · left
   refine ⟨?_, fun i hi => ⟨hi, ?_⟩⟩
   · cases fuel with
     | zero => rfl
     | succ n =>
       simp only [goRest]
       have : ((List.range ops.size).filter fun i => !L.getD i true && ((ops[i]?).map (·.after.all fun e => !Region.binds .any e || L.getD e.on false)).getD false) = [] := by
         rw [List.filter_eq_nil_iff]
         intro i hi
         simp [hall i (List.mem_range.1 hi)]
       rw [this]
       rfl
   · have := hall i hi
     simp only [Array.getD_eq_getD_getElem?] at this
     rw [Array.getElem?_eq_getElem (by omega)] at this ⊢
     simpa using this
 · right
   -- the least that is not listed
   have hex : ∃ i, i < ops.size ∧ L.getD i true = false := by
     refine Classical.byContradiction fun h => hall fun i hi => ?_
     cases hb : L.getD i true with
     | true => rfl
     | false => exact absurd ⟨i, hi, hb⟩ h
   obtain ⟨m, ⟨hm, hml⟩, hmin⟩ : ∃ m, (m < ops.size ∧ L.getD m true = false) ∧ ∀ k, k < m → ¬ (k < ops.size ∧ L.getD k true = false) := by
     obtain ⟨i, hi⟩ := hex
     induction i using Nat.strongRecOn with
     | _ i ih =>
       by_cases h : ∃ k, k < i ∧ k < ops.size ∧ L.getD k true = false
       · obtain ⟨k, hk, hk'⟩ := h; exact ih k hk hk'
       · exact ⟨i, hi, fun k hk hk' => h ⟨k, hk, hk'⟩⟩
   have hfuel : fuel ≠ 0 := by
     rintro rfl
     have : lack ops.size L = 0 := by omega
     unfold lack at this
     rw [List.length_eq_zero_iff, List.filter_eq_nil_iff] at this
     exact this m (List.mem_range.2 hm) (by rw [hml]; rfl)
   obtain ⟨n, rfl⟩ : ∃ n, fuel = n + 1 := ⟨fuel - 1, by omega⟩
   let rs := (List.range ops.size).filter fun i => !L.getD i true && ((ops[i]?).map (·.after.all fun e => !Region.binds .any e || L.getD e.on false)).getD false
   have hmrs : m ∈ rs := by
     refine List.mem_filter.2 ⟨List.mem_range.2 hm, ?_⟩
     rw [hml, Array.getElem?_eq_getElem hm]
     simp only [Bool.not_false, Bool.true_and, Option.map_some, Option.getD_some, Array.all_eq_true]
     intro k hk
     by_cases hbi : Region.binds .any ops[m].after[k] = true
     case neg => simp [hbi]
     have hb := ok.back m _ (Array.getElem?_eq_getElem hm) _ (List.mem_filter.2 ⟨Array.mem_toList_iff.2 (Array.getElem_mem hk), hbi⟩)
     have : L.getD (ops[m].after[k]).on false = true := by
       have h1 := hmin _ hb
       have hlt : (ops[m].after[k]).on < ops.size := Nat.lt_trans hb hm
       simp only [hlt, true_and, Bool.not_eq_false] at h1
       simp only [Array.getD_eq_getD_getElem?] at h1 ⊢
       rw [Array.getElem?_eq_getElem (by omega)] at h1 ⊢
       simpa using h1
     simp [this]
   have hlen : 0 < rs.length := List.length_pos_of_mem hmrs
   have hlt : t % rs.length < rs.length := Nat.mod_lt _ hlen
   have hget : rs[t % rs.length]? = some rs[t % rs.length] := List.getElem?_eq_getElem hlt
   have hmem : rs[t % rs.length] ∈ rs := List.getElem_mem hlt
   generalize hi : rs[t % rs.length] = i at hget hmem
   obtain ⟨h1, h2⟩ := List.mem_filter.1 hmem
   rw [List.mem_range] at h1
   rw [Bool.and_eq_true] at h2
   rw [Array.getElem?_eq_getElem h1] at h2
   refine ⟨i, ops[i], n, t / rs.length, Array.getElem?_eq_getElem h1, by simpa using h2.1, fun e he => ?_, ?_, rfl⟩
   · have h3 := h2.2
     simp only [Option.map_some, Option.getD_some, Array.all_eq_true] at h3
     obtain ⟨he1, he2⟩ := List.mem_filter.1 he
     obtain ⟨k, hk, rfl⟩ := Array.mem_iff_getElem.1 (Array.mem_toList_iff.1 he1)
     have h4 := h3 k hk
     rw [he2] at h4
     simp only [Bool.not_true, Bool.false_or] at h4
     have hb := ok.back i _ (Array.getElem?_eq_getElem h1) _ he
     rw [← hn]
     exact getD_lst h4 (by omega)
   · simp only [goRest]
     rw [show ((List.range ops.size).filter fun i => !L.getD i true && ((ops[i]?).map (·.after.all fun e => !Region.binds .any e || L.getD e.on false)).getD false) = rs from rfl]
     rw [hget]

theorem act_ext {a b : Act} (hd : a.defers = b.defers) (h : ∀ t : Nat, a.tmps[t]? = b.tmps[t]?) : a = b := by
 obtain ⟨x, y⟩ := a
 obtain ⟨x', y'⟩ := b
 simp only at hd h
 subst hd
 rw [Array.ext_getElem? h]

theorem rw_sound (ok : RegOk ops q M) {Q : Exit → Act → World → Prop} : Clos P ops M q r (Q .normal) fun D aV w =>
   ∀ fuel t L aA, Rel P ops M q r D L aA aV w → lack ops.size L ≤ fuel → wpOps P ops Q (goRest ops fuel t L) aA w where
 done D aV w hD hQ := by
   intro fuel
   induction fuel with
   | zero =>
     intro t L aA R hf
     rcases rest_cases ok R.lsz 0 t hf with ⟨hr, hall⟩ | ⟨i, o, f', t', _, _, _, _, hff⟩
     · rw [hr]
       have : aA = aV := act_ext R.dfr fun x => R.slot x fun j hj hjl p hp => absurd (hall j (lt_of_get hp)) hjl
       rw [this]; exact hQ
     · omega
   | succ n ih =>
     intro t L aA R hf
     rcases rest_cases ok R.lsz (n + 1) t hf with ⟨hr, hall⟩ | ⟨i, o, f', t', ho, hl, hr, he, hff⟩
     · rw [hr]
       have : aA = aV := act_ext R.dfr fun x => R.slot x fun j hj hjl p hp => absurd (hall j (lt_of_get hp)) hjl
       rw [this]; exact hQ
     · rw [he]
       obtain rfl : f' = n := by omega
       refine R.step_pend ok ho hr (hD i (lt_of_get ho)) (not_lst hl) fun v R' => ih _ _ _ R' ?_
       have := lack_set R.lsz (lt_of_get ho) hl
       omega
 quiet D aV w i o d v ho hi hq hrd hw hd hdl hev ih := by
   intro fuel t L aA R hf
   refine ih fuel t L aA ?_ hf
   have hil : ¬ Lst ops.size L i := fun h => hi (R.sub i h)
   refine ⟨by rw [put_defers]; exact R.dfr, by rw [put_size]; exact R.sz, R.lsz, fun j hj => List.mem_cons_of_mem _ (R.sub j hj), fun j hj p hp e he => ?_, R.clS, fun x hx => ?_, fun j hj hjl => ?_⟩
   · rcases List.mem_cons.1 hj with rfl | hj
     · rw [ho] at hp; cases hp; exact List.mem_cons_of_mem _ (hrd e he)
     · exact List.mem_cons_of_mem _ (R.clD j hj p hp e he)
   · have hne : o.dst ≠ some x := hx i List.mem_cons_self hil o ho
     rw [put_ne (fun h => hne (by rw [hd, h]))]
     exact R.slot x fun j hj hjl p hp => hx j (List.mem_cons_of_mem _ hj) hjl p hp
   · obtain ⟨d', hd', hst⟩ := ok.dst i o ho hq
     rw [hd] at hd'; cases hd'
     by_cases hji : j = i
     · subst hji
       have hsame : execOp (aV.put (some d) v).eval o = execOp aV.eval o := eval_congr fun x hx => by
         by_cases hxd : d = x
         · subst hxd
           exact absurd (ahead_in ok (· ∈ D) (fun k hk p hp => R.clD k hk p hp) j o ho hrd j (lt_of_get ho) ((hst j o ho).2.1 hx)) hi
         · exact put_ne hxd
       have hwant : wants ops o (aV.put (some d) v) = wants ops o aV := wants_eq ok ho fun g b p dg hg hp hdg => by
         refine put_ne fun hdd => ?_
         obtain ⟨_, e, he, hge⟩ := ok.guard j o g b ho hg
         have hgj : g ≠ j := by have := ok.back j o ho e he; omega
         exact (hst g p hp).1 hgj (by rw [hdg, hdd])
       exact ⟨o, d, v, ho, hq, hd, put_self hdl, fun _ => by rw [hsame]; exact hev, fun h => by rw [hwant, hw] at h; cases h⟩
     · have hjD : j ∈ D := (List.mem_cons.1 hj).resolve_left hji
       obtain ⟨p, dp, vp, hp, hqp, hdp, hvp, h1, h2⟩ := R.pend j hjD hjl
       have hsame : execOp (aV.put (some d) v).eval p = execOp aV.eval p := eval_congr fun x hx => by
         by_cases hxd : d = x
         · subst hxd
           exact absurd (ahead_in ok (· ∈ D) (fun k hk p hp => R.clD k hk p hp) j p hp (R.clD j hjD p hp) i (lt_of_get ho) ((hst j p hp).2.1 hx)) hi
         · exact put_ne hxd
       have hwant : wants ops p (aV.put (some d) v) = wants ops p aV := wants_eq ok hp fun g b pg dg hg hpg hdg => by
         refine put_ne fun hdd => ?_
         obtain ⟨_, e, he, hge⟩ := ok.guard j p g b hp hg
         have hgi : g ≠ i := fun h => hi (by rw [← h, ← hge]; exact R.clD j hjD p hp e he)
         exact (hst g pg hpg).1 hgi (by rw [hdg, hdd])
       refine ⟨p, dp, vp, hp, hqp, hdp, ?_, fun h => ?_, fun h => ?_⟩
       · rw [put_ne fun hdd => (hst j p hp).1 hji (by rw [hdp, hdd])]; exact hvp
       · rw [hsame]; rw [hwant] at h; exact h1 h
       · rw [hwant] at h; exact h2 h
 skip D aV w i o d ho hi hq hrd hw hd hdl ih := by
   intro fuel t L aA R hf
   refine ih fuel t L aA ?_ hf
   have hil : ¬ Lst ops.size L i := fun h => hi (R.sub i h)
   refine ⟨by rw [put_defers]; exact R.dfr, by rw [put_size]; exact R.sz, R.lsz, fun j hj => List.mem_cons_of_mem _ (R.sub j hj), fun j hj p hp e he => ?_, R.clS, fun x hx => ?_, fun j hj hjl => ?_⟩
   · rcases List.mem_cons.1 hj with rfl | hj
     · rw [ho] at hp; cases hp; exact List.mem_cons_of_mem _ (hrd e he)
     · exact List.mem_cons_of_mem _ (R.clD j hj p hp e he)
   · have hne : o.dst ≠ some x := hx i List.mem_cons_self hil o ho
     rw [put_ne (fun h => hne (by rw [hd, h]))]
     exact R.slot x fun j hj hjl p hp => hx j (List.mem_cons_of_mem _ hj) hjl p hp
   · obtain ⟨d', hd', hst⟩ := ok.dst i o ho hq
     rw [hd] at hd'; cases hd'
     by_cases hji : j = i
     · subst hji
       have hwant : wants ops o (aV.put (some d) undef) = wants ops o aV := wants_eq ok ho fun g b p dg hg hp hdg => by
         refine put_ne fun hdd => ?_
         obtain ⟨_, e, he, hge⟩ := ok.guard j o g b ho hg
         have hgj : g ≠ j := by have := ok.back j o ho e he; omega
         exact (hst g p hp).1 hgj (by rw [hdg, hdd])
       exact ⟨o, d, undef, ho, hq, hd, put_self hdl, (fun h => by rw [hwant, hw] at h; cases h), fun _ => rfl⟩
     · have hjD : j ∈ D := (List.mem_cons.1 hj).resolve_left hji
       obtain ⟨p, dp, vp, hp, hqp, hdp, hvp, h1, h2⟩ := R.pend j hjD hjl
       have hsame : execOp (aV.put (some d) undef).eval p = execOp aV.eval p := eval_congr fun x hx => by
         by_cases hxd : d = x
         · subst hxd
           exact absurd (ahead_in ok (· ∈ D) (fun k hk p hp => R.clD k hk p hp) j p hp (R.clD j hjD p hp) i (lt_of_get ho) ((hst j p hp).2.1 hx)) hi
         · exact put_ne hxd
       have hwant : wants ops p (aV.put (some d) undef) = wants ops p aV := wants_eq ok hp fun g b pg dg hg hpg hdg => by
         refine put_ne fun hdd => ?_
         obtain ⟨_, e, he, hge⟩ := ok.guard j p g b hp hg
         have hgi : g ≠ i := fun h => hi (by rw [← h, ← hge]; exact R.clD j hjD p hp e he)
         exact (hst g pg hpg).1 hgi (by rw [hdg, hdd])
       refine ⟨p, dp, vp, hp, hqp, hdp, ?_, fun h => ?_, fun h => ?_⟩
       · rw [put_ne fun hdd => (hst j p hp).1 hji (by rw [hdp, hdd])]; exact hvp
       · rw [hsame]; rw [hwant] at h; exact h1 h
       · rw [hwant] at h; exact h2 h
 effs D aV w hex heff := by
   intro fuel
   induction fuel with
   | zero =>
     intro t L aA R hf
     rcases rest_cases ok R.lsz 0 t hf with ⟨hr, hall⟩ | ⟨i, o, f', t', _, _, _, _, hff⟩
     · obtain ⟨i, hi, hiD⟩ := hex
       exact absurd (R.sub i (hall i hi)) hiD
     · omega
   | succ n ih =>
     intro t L aA R hf
     rcases rest_cases ok R.lsz (n + 1) t hf with ⟨hr, hall⟩ | ⟨i, o, f', t', ho, hl, hr, he, hff⟩
     · obtain ⟨i, hi, hiD⟩ := hex
       exact absurd (R.sub i (hall i hi)) hiD
     · rw [he]
       obtain rfl : f' = n := by omega
       have hlack := lack_set R.lsz (lt_of_get ho) hl
       by_cases hiD : i ∈ D
       · exact R.step_pend ok ho hr hiD (not_lst hl) fun v R' => ih _ _ _ R' (by omega)
       · obtain ⟨hqi, h1, h2⟩ := heff i o ho hiD fun e he' => R.sub _ (hr e he')
         obtain ⟨hs, hwant⟩ := R.same ok ho hr
         have hset := fun j => lst_set (j := j) R.lsz (lt_of_get ho)
         -- the relation behind the effect
         have mk : ∀ v w', (∀ j ∈ D, ¬ Lst ops.size (L.setIfInBounds i true) j → ∃ p d u, ops[j]? = some p ∧ q.testBit j = true ∧ p.dst = some d ∧ (aV.put o.dst v).tmps[d]? = some u ∧
               (wants ops p (aV.put o.dst v) = true → (r.testBit j = false ∧ ∀ w', (execOp (aV.put o.dst v).eval p).run P w' = .ok (.value u) w') ∨ (r.testBit j = true ∧ (execOp (aV.put o.dst v).eval p).run P w' = .ok (.value u) w')) ∧
               (wants ops p (aV.put o.dst v) = false → u = undef)) →
             Rel P ops M q r (i :: D) (L.setIfInBounds i true) (aA.put o.dst v) (aV.put o.dst v) w' := by
           intro v w' hp
           refine ⟨by rw [put_defers, put_defers]; exact R.dfr, by rw [put_size, put_size]; exact R.sz, by simpa using R.lsz, fun j hj => ?_, fun j hj p' hp' e he => ?_, fun j hj p' hp' e he => ?_, fun x hx => ?_, fun j hj hjl => ?_⟩
           · rcases (hset j).1 hj with rfl | h'
             · exact List.mem_cons_self
             · exact List.mem_cons_of_mem _ (R.sub j h')
           · rcases List.mem_cons.1 hj with rfl | hj
             · rw [ho] at hp'; cases hp'; exact List.mem_cons_of_mem _ (R.sub _ (hr e he))
             · exact List.mem_cons_of_mem _ (R.clD j hj p' hp' e he)
           · rw [hset]
             rcases (hset j).1 hj with rfl | h'
             · rw [ho] at hp'; cases hp'; exact .inr (hr e he)
             · exact .inr (R.clS j h' p' hp' e he)
           · have hslot : aA.tmps[x]? = aV.tmps[x]? ∨ o.dst = some x := by
               by_cases hox : o.dst = some x
               · exact .inr hox
               · refine .inl (R.slot x fun j hj hjl p' hp' => ?_)
                 by_cases hji : j = i
                 · subst hji; rw [ho] at hp'; cases hp'; exact hox
                 · exact hx j (List.mem_cons_of_mem _ hj) (fun hc => hjl (((hset j).1 hc).resolve_left hji)) p' hp'
             cases hod : o.dst with
             | none => rcases hslot with h | h
                       · exact h
                       · rw [hod] at h; cases h
             | some d =>
               by_cases hdx : d = x
               · subst hdx
                 simp only [Act.put, Array.getElem?_setIfInBounds, if_true, R.sz]
               · rw [put_ne hdx, put_ne hdx]
                 rcases hslot with h | h
                 · exact h
                 · rw [hod] at h; cases h; exact absurd rfl hdx
           · have hji : j ≠ i := fun h => hjl ((hset j).2 (.inl h))
             exact hp j ((List.mem_cons.1 hj).resolve_left hji) hjl
         -- what was pending is pending
         have pend : ∀ v w', (wants ops o aV = true → Again P ops M q r D i (aV.put o.dst v) w') → (wants ops o aV = false → w' = w) →
             ∀ j ∈ D, ¬ Lst ops.size (L.setIfInBounds i true) j → ∃ p d u, ops[j]? = some p ∧ q.testBit j = true ∧ p.dst = some d ∧ (aV.put o.dst v).tmps[d]? = some u ∧
               (wants ops p (aV.put o.dst v) = true → (r.testBit j = false ∧ ∀ w', (execOp (aV.put o.dst v).eval p).run P w' = .ok (.value u) w') ∨ (r.testBit j = true ∧ (execOp (aV.put o.dst v).eval p).run P w' = .ok (.value u) w')) ∧
               (wants ops p (aV.put o.dst v) = false → u = undef) := by
           intro v w' hag hww j hj hjl
           have hjl' : ¬ Lst ops.size L j := fun hc => hjl ((hset j).2 (.inr hc))
           obtain ⟨p, dp, vp, hp, hqp, hdp, hvp, e1, e2⟩ := R.pend j hj hjl'
           obtain ⟨dj, hdj, hst⟩ := ok.dst j p hp hqp
           rw [hdp] at hdj; cases hdj
           have hji : j ≠ i := fun h => by rw [h] at hj; exact hiD hj
           have hnb : bef M j i = false := by
             cases hb : bef M j i with
             | false => rfl
             | true => exact absurd (ahead_in ok _ R.clS i o ho hr j (lt_of_get hp) hb) hjl'
           have hnb' : bef M i j = false := by
             cases hb : bef M i j with
             | false => rfl
             | true => exact absurd (ahead_in ok (· ∈ D) (fun k hk p hp => R.clD k hk p hp) j p hp (R.clD j hj p hp) i (lt_of_get ho) hb) hiD
           have hsame : execOp (aV.put o.dst v).eval p = execOp aV.eval p := eval_congr fun x hx => by
             refine put_ne' fun hox => ?_
             rcases (hst i o ho).2.2 hqi x hox hx with h | h
             · rw [hnb'] at h; cases h
             · rw [hnb] at h; cases h
           have hwant' : wants ops p (aV.put o.dst v) = wants ops p aV := wants_eq ok hp fun g b pg dg hg hpg hdg => by
             refine put_ne' fun hox => ?_
             obtain ⟨hqg, e, he, hge⟩ := ok.guard j p g b hp hg
             obtain ⟨d3, hd3, hst3⟩ := ok.dst g pg hpg hqg
             rw [hdg] at hd3; cases hd3
             have hgi : i ≠ g := fun h => hiD (by rw [h, ← hge]; exact R.clD j hj p hp e he)
             exact (hst3 i o ho).1 hgi hox
           have hslotd : (aV.put o.dst v).tmps[dp]? = some vp := by
             rw [put_ne' ((hst i o ho).1 (Ne.symm hji))]; exact hvp
           refine ⟨p, dp, vp, hp, hqp, hdp, hslotd, fun hw' => ?_, fun hw' => by rw [hwant'] at hw'; exact e2 hw'⟩
           rw [hwant'] at hw'
           rcases e1 hw' with ⟨hrj, hall⟩ | ⟨hrj, hone⟩
           · exact .inl ⟨hrj, by rw [hsame]; exact hall⟩
           · refine .inr ⟨hrj, ?_⟩
             by_cases hwo : wants ops o aV = true
             · obtain ⟨d4, v4, hd4, hv4, hrun⟩ := hag hwo j hj hqp hrj hnb p hp (by rw [hwant']; exact hw')
               rw [hdp] at hd4; cases hd4
               rw [hslotd] at hv4; cases hv4
               exact hrun
             · rw [hww (by simpa using hwo), hsame]; exact hone
         simp only [wpOps, ho]
         change if wants ops o aA = true then _ else _
         rw [hwant]
         by_cases hwo : wants ops o aV = true
         · rw [if_pos hwo]
           refine .inl (EStep.wp (next := fun v w' => Again P ops M q r D i (aV.put o.dst v) w' ∧ ∀ fuel t L aA, Rel P ops M q r (i :: D) L aA (aV.put o.dst v) w' → lack ops.size L ≤ fuel → wpOps P ops Q (goRest ops fuel t L) aA w') ?_ ?_)
           · have := h1 hwo
             unfold EStep at this ⊢
             rw [hs]
             exact this
           · intro v w' ⟨hag, hX⟩
             exact hX _ _ _ _ (mk v w' (pend v w' (fun _ => hag) fun h => by rw [hwo] at h; cases h)) (by omega)
         · rw [if_neg hwo]
           have hwo' : wants ops o aV = false := by simpa using hwo
           exact h2 hwo' _ _ _ _ (mk undef w (pend undef w (fun h => absurd h hwo) fun _ => rfl)) (by omega)

/-- A region that draws its order. -/
theorem wp_region_mixed {id : Nat} {Q : Exit → Act → World → Prop} {a : Act} {w : World} (hm : (P.follows .mixedOrders || !Region.departs ops) = true) (ok : regOk0 ops q M = true)
   (h : RW P ops M q r (Q .normal) [] a { w with drawn := w.drawn + 1 }) : (Code.region id ops true).wp P Q a w := by
 have ok' := regOk_of ok
 refine wp_region_draw fun t => ?_
 unfold Region.schedule
 rw [if_pos hm]
 unfold Region.linearise
 rw [go_eq]
 simp only [List.reverse_nil, List.nil_append]
 refine h _ (rw_sound ok') _ _ _ _ ⟨rfl, rfl, by simp, fun i hi => ?_, fun i hi => (by cases hi), fun i hi => ?_, fun _ _ => rfl, fun i hi => (by cases hi)⟩ ?_
 · obtain ⟨h1, h2⟩ := hi; simp [h1] at h2
 · obtain ⟨h1, h2⟩ := hi; simp [h1] at h2
 · unfold lack
   exact Nat.le_trans (List.length_filter_le _ _) (by simp)
theorem wp_region_any {id : Nat} {Q : Exit → Act → World → Prop} {a : Act} {w : World} (ok : regOk ops q M = true)
   (h : RW P ops M q r (Q .normal) [] a { w with drawn := w.drawn + 1 }) : (Code.region id ops true).wp P Q a w := by
 unfold regOk at ok
 rw [Bool.and_eq_true] at ok
 exact wp_region_mixed (by rw [ok.1]; simp) ok.2 h
end
end Slb

/- Base 3: the judgement of a walk, its rules for control, regions, calls. -/
namespace Slb
open Go

/-- In each state that is so, Φ. -/
def J (N : Nat) (G : Env) (S : List HProp) (F : Fr) (Φ : Act → World → Prop) : Prop := ∀ a w, St N G S F a w → Φ a w

section structural
variable {N : Nat} {G : Env} {S S' : List HProp} {F : Fr} {Φ : Act → World → Prop}
theorem J.env {G' : Env} (h : G.agree G') (j : J N G' S F Φ) : J N G S F Φ := fun a w s => j a w (s.env h)
theorem J.conseq (h : ∀ w, Sat S F w → Sat S' F w) (j : J N G S' F Φ) : J N G S F Φ := fun a w s => j a w (s.world (h w s.sat))
theorem J.conseqE {α : Type} {T : α → List HProp} (h : ∀ w, Sat S F w → ∃ x, Sat (T x) F w) (j : ∀ x, J N G (T x) F Φ) : J N G S F Φ :=
 fun a w s => let ⟨x, hx⟩ := h w s.sat; j x a w (s.world hx)
theorem J.mono {Ψ : Act → World → Prop} (j : J N G S F Φ) (h : ∀ a w, Φ a w → Ψ a w) : J N G S F Ψ := fun a w s => h a w (j a w s)

/-- A lies in S, and S1 is the rest. -/
inductive Pick : List HProp → HProp → List HProp → Prop where
 | head {A : HProp} {l : List HProp} : Pick (A :: l) A l
 | tail {A B : HProp} {l m : List HProp} (h : Pick l A m) : Pick (B :: l) A (B :: m)
theorem Pick.perm {A : HProp} {l m : List HProp} (h : Pick l A m) : l.Perm (A :: m) := by
 induction h with
 | head => exact List.Perm.refl _
 | tail _ ih => exact (List.Perm.cons _ ih).trans (List.Perm.swap _ _ _)
/-- All of a list, one after the other, and the rest. -/
inductive Takes : List HProp → List HProp → List HProp → Prop where
 | nil {l : List HProp} : Takes l [] l
 | cons {A : HProp} {l l1 m r : List HProp} (h : Pick l A l1) (t : Takes l1 m r) : Takes l (A :: m) r
theorem Takes.perm {l m r : List HProp} (h : Takes l m r) : l.Perm (m ++ r) := by
 induction h with
 | nil => exact List.Perm.refl _
 | cons h _ ih => exact h.perm.trans (List.Perm.cons _ ih)
/-- The same list with another thing in one place. -/
inductive Upd : List HProp → HProp → HProp → List HProp → Prop where
 | head {A B : HProp} {l : List HProp} : Upd (A :: l) A B (B :: l)
 | tail {A B C : HProp} {l m : List HProp} (h : Upd l A B m) : Upd (C :: l) A B (C :: m)
theorem Upd.perm {A B : HProp} {l m : List HProp} (h : Upd l A B m) : ∃ r, l.Perm (A :: r) ∧ m.Perm (B :: r) := by
 induction h with
 | head => exact ⟨_, List.Perm.refl _, List.Perm.refl _⟩
 | @tail A B C l m _ ih =>
   obtain ⟨r, h1, h2⟩ := ih
   exact ⟨C :: r, (List.Perm.cons _ h1).trans (List.Perm.swap _ _ _), (List.Perm.cons _ h2).trans (List.Perm.swap _ _ _)⟩
theorem Sat.takes {m r : List HProp} {w : World} (t : Takes S m r) (s : Sat S F w) : Sat (m ++ r) F w := s.perm t.perm
theorem Sat.dropR {m r : List HProp} {w : World} (s : Sat (m ++ r) F w) : Sat m F w :=
 Sat.mono (S := m ++ r) (fun h e => by
   obtain ⟨h1, h2, d, rfl, b, _⟩ := stars_append.1 e
   exact ⟨h1, PH.le_union_left, b⟩) s

theorem J.take {m r : List HProp} (t : Takes S m r) (j : J N G (m ++ r) F Φ) : J N G S F Φ := j.conseq fun _ s => s.takes t
theorem J.keep {m r : List HProp} (t : Takes S m r) (j : J N G m F Φ) : J N G S F Φ := j.conseq fun _ s => (s.takes t).dropR
/-- One atom is opened. -/
theorem J.openE {α : Type} {A : HProp} {r : List HProp} {T : α → List HProp} (t : Pick S A r) (h : ∀ h, A h → ∃ x, stars (T x) h) (j : ∀ x, J N G (T x ++ r) F Φ) : J N G S F Φ :=
 J.conseqE (T := fun x => T x ++ r) (fun w s => by
   obtain ⟨a, b, c, d, k, ⟨h1, h2, e1, e2, e3, e4⟩, f, g⟩ := s.perm t.perm
   obtain ⟨x, hx⟩ := h h1 e3
   exact ⟨x, a, b, c, d, k, stars_append.2 ⟨h1, h2, e1, e2, hx, e4⟩, f, g⟩) j
theorem J.ex {α : Type} {A : α → HProp} {r : List HProp} (t : Pick S (Slb.ex A) r) (j : ∀ x, J N G (A x :: r) F Φ) : J N G S F Φ :=
 J.conseqE (T := fun x => A x :: r) (fun _ s => (s.perm t.perm).ex) j
theorem J.fact {p : Prop} {r : List HProp} (t : Pick S (Slb.fact p) r) (j : p → J N G r F Φ) : J N G S F Φ :=
 fun a w s => let ⟨hp, s'⟩ := (s.sat.perm t.perm).fact; j hp a w (s.world s')
/-- Some atoms are closed to one. -/
theorem J.close {A : HProp} {m r : List HProp} (t : Takes S m r) (h : ∀ h, stars m h → A h) (j : J N G (A :: r) F Φ) : J N G S F Φ :=
 j.conseq fun w s => by
   obtain ⟨a, b, c, d, k, e, f, g⟩ := s.takes t
   obtain ⟨h1, h2, e1, e2, e3, e4⟩ := stars_append.1 e
   exact ⟨a, b, c, d, k, ⟨h1, h2, e1, e2, h _ e3, e4⟩, f, g⟩
end structural

/-- Where a piece of code goes. -/
structure Posts where
 n : Act → World → Prop
 r : Act → World → Prop
 x : List (Nat × (Act → World → Prop))
def findX (id : Nat) : List (Nat × (Act → World → Prop)) → Option (Act → World → Prop)
 | [] => none
 | p :: l => bif Nat.beq p.1 id then some p.2 else findX id l
def Posts.q (K : Posts) : Exit → Act → World → Prop
 | .normal => K.n
 | .ret => K.r
 | .exit id => (findX id K.x).getD fun _ _ => False
 | _ => fun _ _ => False

def Posts.setN (K : Posts) (k : Act → World → Prop) : Posts := ⟨k, K.r, K.x⟩
def Posts.pushX (K : Posts) (id : Nat) : Posts := ⟨K.n, K.r, (id, K.n) :: K.x⟩

/-- The code's walk. -/
def Run (P : Program) (N : Nat) (c : Code) (K : Posts) (G : Env) (S : List HProp) (F : Fr) : Prop := J N G S F (c.wp P K.q)

section control
variable {P : Program} {N : Nat} {K : Posts} {G : Env} {S : List HProp} {F : Fr}
theorem Run.skip (h : J N G S F K.n) : Run P N .skip K G S F := fun a w s => wp_skip (h a w s)
theorem Run.ret (h : J N G S F K.r) : Run P N .ret K G S F := fun a w s => wp_ret (h a w s)
theorem Run.exit {id : Nat} {X : Act → World → Prop} (hx : findX id K.x = some X) (h : J N G S F X) : Run P N (.exit id) K G S F :=
 fun a w s => wp_exit (by show (findX id K.x).getD (fun _ _ => False) a w; rw [hx]; exact h a w s)
theorem Run.seq {x y : Code} (h : ∀ k : Act → World → Prop, (∀ G S, Run P N y K G S F → J N G S F k) → Run P N x (K.setN k) G S F) : Run P N (.seq x y) K G S F :=
 fun a w s => wp_seq_k fun k hk => wp_mono (h k (fun G' S' r a' w' s' => hk a' w' (r a' w' s')) a w s) fun e a' w' q => by
   cases e <;> exact q
theorem Run.cond {c : Operand} {x y : Code} {b : Bool} (hc : opv G c = some (.bool b)) (ht : b = true → Run P N x K G S F) (hf : b = false → Run P N y K G S F) : Run P N (.cond c x y) K G S F :=
 fun a w s => wp_cond_split (s.eval hc) (fun h => ht h a w s) fun h => hf h a w s
theorem Run.cond_t {c : Operand} {x y : Code} (hc : opv G c = some (.bool true)) (ht : Run P N x K G S F) : Run P N (.cond c x y) K G S F :=
 Run.cond hc (fun _ => ht) fun h => by cases h
theorem Run.cond_f {c : Operand} {x y : Code} (hc : opv G c = some (.bool false)) (hf : Run P N y K G S F) : Run P N (.cond c x y) K G S F :=
 Run.cond hc (fun h => by cases h) fun _ => hf
theorem Run.block {id : Nat} {c : Code} (h : Run P N c (K.pushX id) G S F) : Run P N (.block id c) K G S F :=
 fun a w s => wp_block (wp_mono (h a w s) fun e a' w' q => by
   cases e with
   | exit id' =>
     simp only [Posts.q, Posts.pushX, findX] at q
     simp only [Exit.inBlock]
     cases hb : Nat.beq id id' with
     | true => rw [hb] at q; rw [if_pos (Nat.eq_of_beq_eq_true hb).symm]; exact q
     | false => rw [hb] at q; rw [if_neg (Ne.symm (Nat.ne_of_beq_eq_false hb))]; exact q
   | _ => exact q)
theorem least (p : Nat → Prop) (h : ∃ n, p n) : ∃ m, p m ∧ ∀ k, p k → m ≤ k := by
 obtain ⟨n, hn⟩ := h
 induction n using Nat.strongRecOn with
 | _ n ih =>
   by_cases h : ∃ k, k < n ∧ p k
   · obtain ⟨k, hk, hp⟩ := h; exact ih k hk hp
   · exact ⟨n, hn, fun k hk => Nat.le_of_not_lt fun hlt => h ⟨k, hlt, hk⟩⟩
theorem Run.loop {X : Type} (GI : X → Env) (SI : X → List HProp) (μ : X → Nat) {c : Code} (x0 : X) (h0 : ∀ Φ, J N (GI x0) (SI x0) F Φ → J N G S F Φ)
   (round : ∀ x (k : Act → World → Prop), (∀ x', μ x' < μ x → J N (GI x') (SI x') F k) → Run P N c (K.setN k) (GI x) (SI x) F) : Run P N (.loop c) K G S F := by
 intro a w s
 let I : Act → World → Prop := fun a w => ∃ x, St N (GI x) (SI x) F a w
 have hex : ∀ a w, I a w → ∃ n x, μ x = n ∧ St N (GI x) (SI x) F a w := fun a w ⟨x, hx⟩ => ⟨_, x, rfl, hx⟩
 have hm : ∃ m : Act → World → Nat, (∀ a w x, St N (GI x) (SI x) F a w → m a w ≤ μ x) ∧ ∀ a w, I a w → ∃ x, μ x = m a w ∧ St N (GI x) (SI x) F a w := by
   have key : ∀ a w, ∃ n, (∀ x, St N (GI x) (SI x) F a w → n ≤ μ x) ∧ (I a w → ∃ x, μ x = n ∧ St N (GI x) (SI x) F a w) := by
     intro a w
     by_cases h : I a w
     · obtain ⟨n, h1, h2⟩ := least (fun n => ∃ x, μ x = n ∧ St N (GI x) (SI x) F a w) (hex a w h)
       exact ⟨n, fun x hx => h2 _ ⟨x, rfl, hx⟩, fun _ => h1⟩
     · exact ⟨0, fun _ _ => Nat.zero_le _, fun h' => absurd h' h⟩
   exact ⟨fun a w => (key a w).choose, fun a w => (key a w).choose_spec.1, fun a w => (key a w).choose_spec.2⟩
 obtain ⟨m, hle, hat⟩ := hm
 refine wp_loop I m ⟨x0, h0 (fun a w => St N (GI x0) (SI x0) F a w) (fun _ _ s => s) a w s⟩ fun a w hI => ?_
 obtain ⟨x, hx, hs⟩ := hat a w hI
 refine wp_mono (round x (fun a' w' => I a' w' ∧ m a' w' < m a w) (fun x' hx' a' w' s' => ⟨⟨x', s'⟩, ?_⟩) a w hs) fun e a' w' q => ?_
 · exact Nat.lt_of_le_of_lt (hle a' w' x' s') (hx ▸ hx')
 · cases e <;> exact q
/-- A cut: the code behind it is walked once, from a state that names what it needs. -/
theorem Run.cut {x y : Code} {X : Type} (GI : X → Env) (SI : X → List HProp)
   (h : ∀ k : Act → World → Prop, (∀ x, J N (GI x) (SI x) F k) → Run P N x (K.setN k) G S F) (h2 : ∀ x, Run P N y K (GI x) (SI x) F) : Run P N (.seq x y) K G S F :=
 Run.seq fun k hk => h k fun x => hk _ _ (h2 x)
end control

/-- A Bool is told apart. -/
theorem J.caseB {N : Nat} {G : Env} {S : List HProp} {F : Fr} {Φ : Act → World → Prop} {d : Nat} {b : Bool} (ht : b = true → J N (.cons d (.bool true) G) S F Φ) (hf : b = false → J N (.cons d (.bool false) G) S F Φ) :
   J N (.cons d (.bool b) G) S F Φ := by
 cases b
 · exact hf rfl
 · exact ht rfl
theorem J.caseD {N : Nat} {G : Env} {S : List HProp} {F : Fr} {Φ : Act → World → Prop} {d : Nat} {p : Prop} [Decidable p] (ht : p → J N (.cons d (.bool true) G) S F Φ) (hf : ¬ p → J N (.cons d (.bool false) G) S F Φ) :
   J N (.cons d (.bool (decide p)) G) S F Φ := by
 by_cases h : p
 · simp only [h, decide_true]; exact ht h
 · simp only [h, decide_false]; exact hf h

section ops
variable {P : Program} {N : Nat} {G : Env} {S : List HProp} {F : Fr}
/-- An operation's value, in whatever world. -/
def QP (P : Program) (N : Nat) (G : Env) (S : List HProp) (F : Fr) (o : Oper) (v : Value) : Prop := J N G S F fun a _ => ∀ w', (execOp a.eval o).run P w' = .ok (.value v) w'
/-- What an operation reads. -/
def QR (P : Program) (N : Nat) (G : Env) (S : List HProp) (F : Fr) (o : Oper) (v : Value) : Prop := J N G S F fun a w => (execOp a.eval o).run P w = .ok (.value v) w
/-- What an operation does. -/
def EF (P : Program) (N : Nat) (G : Env) (S : List HProp) (F : Fr) (o : Oper) (next : Value → List HProp → Prop) : Prop :=
 J N G S F fun a w => EStep P o a w fun v w' => ∃ S', next v S' ∧ Sat S' F w'
theorem QP.read {o : Oper} {v : Value} (h : QP P N G S F o v) : QR P N G S F o v := fun a w s => h a w s w
theorem QR.eff {o : Oper} {v : Value} (h : QR P N G S F o v) : EF P N G S F o fun u S' => u = v ∧ S' = S := fun a w s => by
 have h' : (execOp a.eval o).run P w = .ok (.value v) w := h a w s
 show EStep P o a w _
 unfold EStep
 rw [h']
 exact ⟨S, ⟨rfl, rfl⟩, s.sat⟩
theorem QP.eff {o : Oper} {v : Value} (h : QP P N G S F o v) : EF P N G S F o fun u S' => u = v ∧ S' = S := h.read.eff

/-- A guard's word. -/
def Want (N : Nat) (G : Env) (S : List HProp) (F : Fr) (ops : Array Oper) (o : Oper) (b : Bool) : Prop := J N G S F fun a _ => wants ops o a = b
theorem Want.none {ops : Array Oper} {o : Oper} (h : o.guard = .none) : Want N G S F ops o true := fun a w s => by unfold wants Region.wanted; rw [h]
theorem Want.some {ops : Array Oper} {o : Oper} {g d : Nat} {b c : Bool} (h : o.guard = .some (g, b)) (hg : (ops[g]?).bind (·.dst) = .some d) (hl : lk G d = .some (.bool c)) : Want N G S F ops o (c == b) :=
 fun a w s => by
   have := s.slots d _ hl
   show wants ops o a = _
   unfold wants Region.wanted yielded
   simp only [h, hg, Option.bind_some, this]
   rfl

theorem Want.yes {ops : Array Oper} {o : Oper} {g d : Nat} {b c : Bool} (h : o.guard = .some (g, b)) (hg : (ops[g]?).bind (·.dst) = .some d) (hl : lk G d = .some (.bool c)) (hc : (c == b) = true) : Want N G S F ops o true := hc ▸ Want.some h hg hl
theorem Want.no {ops : Array Oper} {o : Oper} {g d : Nat} {b c : Bool} (h : o.guard = .some (g, b)) (hg : (ops[g]?).bind (·.dst) = .some d) (hl : lk G d = .some (.bool c)) (hc : (c == b) = false) : Want N G S F ops o false := hc ▸ Want.some h hg hl
/-- A region in the text's order. -/
def Sq (P : Program) (N : Nat) (ops : Array Oper) (l : List Nat) (K : Posts) (G : Env) (S : List HProp) (F : Fr) : Prop := J N G S F (wpOps P ops K.q l)
theorem Run.region {id : Nat} {ops : Array Oper} {K : Posts} (h : Sq P N ops (List.range ops.size) K G S F) : Run P N (.region id ops false) K G S F := fun a w s => wp_region (h a w s)
theorem Sq.nil {ops : Array Oper} {K : Posts} (h : J N G S F K.n) : Sq P N ops [] K G S F := h
theorem Sq.eff {ops : Array Oper} {K : Posts} {i : Nat} {l : List Nat} {o : Oper} {d : Nat} {next : Value → List HProp → Prop} (ho : ops[i]? = some o) (hw : Want N G S F ops o true) (hd : o.dst = some d) (hn : d < N)
   (he : EF P N G S F o next) (h : ∀ v S', next v S' → Sq P N ops l K (.cons d v G) S' F) : Sq P N ops (i :: l) K G S F := fun a w s => by
 have hw' : Region.wanted o (yielded ops a.tmps) = true := hw a w s
 simp only [wpOps, ho, hw', if_true]
 refine .inl (EStep.wp (he a w s) fun v w' ⟨S', hv, hs⟩ => ?_)
 rw [hd]
 exact h v S' hv _ _ (s.put hn v hs)
theorem Sq.act {ops : Array Oper} {K : Posts} {i : Nat} {l : List Nat} {o : Oper} {next : Value → List HProp → Prop} (ho : ops[i]? = some o) (hw : Want N G S F ops o true) (hd : o.dst = none)
   (he : EF P N G S F o next) (h : ∀ v S', next v S' → Sq P N ops l K G S' F) : Sq P N ops (i :: l) K G S F := fun a w s => by
 have hw' : Region.wanted o (yielded ops a.tmps) = true := hw a w s
 simp only [wpOps, ho, hw', if_true]
 refine .inl (EStep.wp (he a w s) fun v w' ⟨S', hv, hs⟩ => ?_)
 rw [hd]
 exact h v S' hv _ _ (s.world hs)
theorem Sq.quiet {ops : Array Oper} {K : Posts} {i : Nat} {l : List Nat} {o : Oper} {d : Nat} {v : Value} (ho : ops[i]? = some o) (hw : Want N G S F ops o true) (hd : o.dst = some d) (hn : d < N)
   (he : QR P N G S F o v) (h : Sq P N ops l K (.cons d v G) S F) : Sq P N ops (i :: l) K G S F :=
 Sq.eff ho hw hd hn he.eff (by rintro _ _ ⟨rfl, rfl⟩; exact h)
theorem Sq.skip {ops : Array Oper} {K : Posts} {i : Nat} {l : List Nat} {o : Oper} {d : Nat} (ho : ops[i]? = some o) (hw : Want N G S F ops o false) (hd : o.dst = some d) (hn : d < N)
   (h : Sq P N ops l K (.cons d undef G) S F) : Sq P N ops (i :: l) K G S F := fun a w s => by
 have hw' : Region.wanted o (yielded ops a.tmps) = false := hw a w s
 simp only [wpOps, ho, hw', Bool.false_eq_true, if_false]
 rw [hd]
 exact h _ _ (s.put hn undef s.sat)

/-- A region that draws its order. D: what is done. -/
def Dw (P : Program) (N : Nat) (ops : Array Oper) (M : List Nat) (q r : Nat) (D : List Nat) (k : Act → World → Prop) (G : Env) (S : List HProp) (F : Fr) : Prop := J N G S F (RW P ops M q r k D)
theorem Run.regionD {id : Nat} {ops : Array Oper} {K : Posts} {M : List Nat} {q r : Nat} (ok : regOk ops q M = true) (h : Dw P N ops M q r [] K.n G S F) : Run P N (.region id ops true) K G S F :=
 fun a _ s => wp_region_any ok (h a _ ⟨s.defers, s.size, s.slots, s.sat.drew (Nat.le_succ _)⟩)
/-- The same where the text's order and the other one are mixed. -/
theorem Run.regionM {id : Nat} {ops : Array Oper} {K : Posts} {M : List Nat} {q r : Nat} (hm : P.follows .mixedOrders = true) (ok : regOk0 ops q M = true) (h : Dw P N ops M q r [] K.n G S F) : Run P N (.region id ops true) K G S F :=
 fun a _ s => wp_region_mixed (by rw [hm]; rfl) ok (h a _ ⟨s.defers, s.size, s.slots, s.sat.drew (Nat.le_succ _)⟩)
variable {ops : Array Oper} {M : List Nat} {q r : Nat} {D : List Nat} {k : Act → World → Prop}
def allIn (n : Nat) (D : List Nat) : Bool := (List.range n).all fun i => D.any (Nat.beq i)
theorem any_beq {D : List Nat} {i : Nat} (h : D.any (Nat.beq i) = true) : i ∈ D := by
 obtain ⟨x, hx, hb⟩ := List.any_eq_true.1 h
 rw [Nat.eq_of_beq_eq_true hb]; exact hx
theorem mem_any {D : List Nat} {i : Nat} (h : i ∈ D) : D.any (Nat.beq i) = true := List.any_eq_true.2 ⟨i, h, by simp⟩
theorem Dw.nil (hall : allIn ops.size D = true) (h : J N G S F k) : Dw P N ops M q r D k G S F := fun a w s =>
 (RW.clos P ops M q r k).done D a w (fun i hi => any_beq (List.all_eq_true.1 hall i (List.mem_range.2 hi))) (h a w s)
/-- May operation i come now? -/
def isReady (ops : Array Oper) (D : List Nat) (i : Nat) : Bool := match ops[i]? with | none => false | some o => (aft o).all fun e => D.any (Nat.beq e.on)
theorem ready_of {i : Nat} {o : Oper} (ho : ops[i]? = some o) (h : isReady ops D i = true) : ready o D := fun e he => by
 unfold isReady at h
 rw [ho] at h
 exact any_beq (List.all_eq_true.1 h e he)
/-- What is asked of a quiet step, by computation. -/
def stepOk (ops : Array Oper) (D : List Nat) (q i : Nat) : Bool := isReady ops D i && !D.any (Nat.beq i) && q.testBit i
theorem stepOk_of {i : Nat} {o : Oper} (ho : ops[i]? = some o) (h : stepOk ops D q i = true) : i ∉ D ∧ q.testBit i = true ∧ ready o D := by
 unfold stepOk at h
 simp only [Bool.and_eq_true, Bool.not_eq_true'] at h
 exact ⟨fun hm => by rw [mem_any hm] at h; exact absurd h.1.2 (by simp), h.2, ready_of ho h.1.1⟩
theorem Dw.pure {i : Nat} {o : Oper} {d : Nat} {v : Value} (ho : ops[i]? = some o) (hok : (stepOk ops D q i && !r.testBit i) = true) (hw : Want N G S F ops o true) (hd : o.dst = some d) (hn : d < N)
   (he : QP P N G S F o v) (h : Dw P N ops M q r (i :: D) k (.cons d v G) S F) : Dw P N ops M q r D k G S F := fun a w s => by
 rw [Bool.and_eq_true] at hok
 obtain ⟨h1, h2, h3⟩ := stepOk_of ho hok.1
 exact (RW.clos P ops M q r k).quiet D a w i o d v ho h1 h2 h3 (hw a w s) hd (by rw [s.size]; exact hn) (.inl ⟨by simpa using hok.2, he a w s⟩) (h _ _ (s.put hn v s.sat))
theorem Dw.read {i : Nat} {o : Oper} {d : Nat} {v : Value} (ho : ops[i]? = some o) (hok : (stepOk ops D q i && r.testBit i) = true) (hw : Want N G S F ops o true) (hd : o.dst = some d) (hn : d < N)
   (he : QR P N G S F o v) (h : Dw P N ops M q r (i :: D) k (.cons d v G) S F) : Dw P N ops M q r D k G S F := fun a w s => by
 rw [Bool.and_eq_true] at hok
 obtain ⟨h1, h2, h3⟩ := stepOk_of ho hok.1
 exact (RW.clos P ops M q r k).quiet D a w i o d v ho h1 h2 h3 (hw a w s) hd (by rw [s.size]; exact hn) (.inr ⟨hok.2, he a w s⟩) (h _ _ (s.put hn v s.sat))
theorem Dw.skip {i : Nat} {o : Oper} {d : Nat} (ho : ops[i]? = some o) (hok : stepOk ops D q i = true) (hw : Want N G S F ops o false) (hd : o.dst = some d) (hn : d < N)
   (h : Dw P N ops M q r (i :: D) k (.cons d undef G) S F) : Dw P N ops M q r D k G S F := fun a w s => by
 obtain ⟨h1, h2, h3⟩ := stepOk_of ho hok
 exact (RW.clos P ops M q r k).skip D a w i o d ho h1 h2 h3 (hw a w s) hd (by rw [s.size]; exact hn) (h _ _ (s.put hn undef s.sat))
/-- What may come next. -/
def nexts (ops : Array Oper) (D : List Nat) : List Nat := (List.range ops.size).filter fun i => isReady ops D i && !D.any (Nat.beq i)
/-- What must be looked at again behind i. -/
def agains (M : List Nat) (q r : Nat) (D : List Nat) (i : Nat) : List Nat := D.filter fun j => q.testBit j && r.testBit j && !bef M j i
/-- One of the effects that may come next. -/
def One (P : Program) (N : Nat) (ops : Array Oper) (M : List Nat) (q r : Nat) (D : List Nat) (k : Act → World → Prop) (G : Env) (S : List HProp) (F : Fr) (i : Nat) : Prop :=
 q.testBit i = false ∧ J N G S F fun a w => ∀ o, ops[i]? = some o →
   (wants ops o a = true → EStep P o a w fun v w' => Again P ops M q r D i (a.put o.dst v) w' ∧ RW P ops M q r k (i :: D) (a.put o.dst v) w') ∧
   (wants ops o a = false → RW P ops M q r k (i :: D) (a.put o.dst undef) w)
theorem Dw.effs {l : List Nat} (hl : nexts ops D = l) (hne : allIn ops.size D = false) (h : ∀ i ∈ l, One P N ops M q r D k G S F i) : Dw P N ops M q r D k G S F := fun a w s => by
 refine (RW.clos P ops M q r k).effs D a w ?_ fun i o ho hi hrd => ?_
 · refine Classical.byContradiction fun hc => ?_
   have : allIn ops.size D = true := List.all_eq_true.2 fun i hi => by
     by_cases hm : i ∈ D
     · exact mem_any hm
     · exact absurd ⟨i, List.mem_range.1 hi, hm⟩ hc
   rw [this] at hne; cases hne
 · have him : i ∈ l := by
     rw [← hl]
     refine List.mem_filter.2 ⟨List.mem_range.2 (lt_of_get ho), ?_⟩
     have h1 : isReady ops D i = true := by
       unfold isReady; rw [ho]
       exact List.all_eq_true.2 fun e he => mem_any (hrd e he)
     have h2 : D.any (Nat.beq i) = false := by
       cases hb : D.any (Nat.beq i) with
       | false => rfl
       | true => exact absurd (any_beq hb) hi
     rw [h1, h2]; rfl
   obtain ⟨h1, h2⟩ := h i him
   obtain ⟨h3, h4⟩ := h2 a w s o ho
   exact ⟨h1, h3, h4⟩
/-- Looked at again. -/
def Look (P : Program) (N : Nat) (ops : Array Oper) (G : Env) (S : List HProp) (F : Fr) (j : Nat) : Prop :=
 ∀ o, ops[j]? = some o → J N G S F fun a w => wants ops o a = true → ∃ d v, o.dst = some d ∧ a.tmps[d]? = some v ∧ (execOp a.eval o).run P w = .ok (.value v) w
theorem Look.mk {j : Nat} {o : Oper} {d : Nat} {v : Value} (ho : ops[j]? = some o) (hd : o.dst = some d) (hv : lk G d = some v) (he : QR P N G S F o v) : Look P N ops G S F j := fun o' ho' a w s _ => by
 rw [ho] at ho'; cases ho'
 exact ⟨d, v, hd, s.slots d v hv, he a w s⟩
theorem Look.no {j : Nat} {o : Oper} (ho : ops[j]? = some o) (hw : Want N G S F ops o false) : Look P N ops G S F j := fun o' ho' a w s h => by
 rw [ho] at ho'; cases ho'
 rw [hw a w s] at h; cases h
theorem One.mk {i : Nat} {o : Oper} {d : Nat} {next : Value → List HProp → Prop} {l : List Nat} (ho : ops[i]? = some o) (hq : q.testBit i = false) (hw : Want N G S F ops o true) (hd : o.dst = some d) (hn : d < N)
   (he : EF P N G S F o next) (hl : agains M q r D i = l)
   (h : ∀ v S', next v S' → (∀ j ∈ l, Look P N ops (.cons d v G) S' F j) ∧ Dw P N ops M q r (i :: D) k (.cons d v G) S' F) : One P N ops M q r D k G S F i := by
 refine ⟨hq, fun a w s o' ho' => ?_⟩
 rw [ho] at ho'; cases ho'
 refine ⟨fun _ => (he a w s).mono fun v w' ⟨S', hv, hs⟩ => ?_, fun hf => by rw [hw a w s] at hf; cases hf⟩
 obtain ⟨h1, h2⟩ := h v S' hv
 rw [hd]
 have s' := s.put hn v hs
 refine ⟨fun j hj hqj hrj hb p hp hwp => ?_, h2 _ _ s'⟩
 have hm : j ∈ l := by
   rw [← hl]
   exact List.mem_filter.2 ⟨hj, by rw [hqj, hrj, hb]; rfl⟩
 exact h1 j hm p hp _ _ s' hwp
theorem One.act {i : Nat} {o : Oper} {next : Value → List HProp → Prop} {l : List Nat} (ho : ops[i]? = some o) (hq : q.testBit i = false) (hw : Want N G S F ops o true) (hd : o.dst = none)
   (he : EF P N G S F o next) (hl : agains M q r D i = l)
   (h : ∀ v S', next v S' → (∀ j ∈ l, Look P N ops G S' F j) ∧ Dw P N ops M q r (i :: D) k G S' F) : One P N ops M q r D k G S F i := by
 refine ⟨hq, fun a w s o' ho' => ?_⟩
 rw [ho] at ho'; cases ho'
 refine ⟨fun _ => (he a w s).mono fun v w' ⟨S', hv, hs⟩ => ?_, fun hf => by rw [hw a w s] at hf; cases hf⟩
 obtain ⟨h1, h2⟩ := h v S' hv
 rw [hd]
 have s' := s.world hs
 refine ⟨fun j hj hqj hrj hb p hp hwp => ?_, h2 _ _ s'⟩
 have hm : j ∈ l := by
   rw [← hl]
   exact List.mem_filter.2 ⟨hj, by rw [hqj, hrj, hb]; rfl⟩
 exact h1 j hm p hp _ _ s' hwp
theorem One.skip {i : Nat} {o : Oper} (ho : ops[i]? = some o) (hq : q.testBit i = false) (hw : Want N G S F ops o false) (hd : o.dst = none ∨ ∃ d, o.dst = some d ∧ d < N)
   (h : ∀ G', (∀ t v, lk G' t = some v → (o.dst ≠ some t → lk G t = some v) ∧ (o.dst = some t → v = undef)) → Dw P N ops M q r (i :: D) k G' S F) : One P N ops M q r D k G S F i := by
 refine ⟨hq, fun a w s o' ho' => ?_⟩
 rw [ho] at ho'; cases ho'
 refine ⟨(fun hf => by rw [hw a w s] at hf; cases hf), fun _ => ?_⟩
 rcases hd with hd | ⟨d, hd, hn⟩
 · rw [hd]; exact h G (fun t v e => ⟨fun _ => e, fun hc => by rw [hd] at hc; cases hc⟩) _ _ s
 · rw [hd]
   refine h (.cons d undef G) (fun t v e => ?_) _ _ (s.put hn undef s.sat)
   rcases lk_cons e with ⟨rfl, rfl⟩ | ⟨hne, e'⟩
   · exact ⟨fun hc => absurd hd hc, fun _ => rfl⟩
   · exact ⟨fun _ => e', fun hc => by rw [hd] at hc; cases hc; exact absurd rfl hne⟩
/-- Only one effect may come next. -/
theorem Dw.eff {i : Nat} (hl : nexts ops D = [i]) (hne : allIn ops.size D = false) (h : One P N ops M q r D k G S F i) : Dw P N ops M q r D k G S F :=
 Dw.effs hl hne fun j hj => by rw [List.mem_singleton.1 hj]; exact h
end ops

section funcs
/-- What a call of f does: of what the list says, and nothing else. -/
def Spec (P : Program) (f : FuncId) (args : Array Value) (S : List HProp) (F : Fr) (R : Value → List HProp → Prop) : Prop :=
 ∀ w, Sat S F w → Calls P f args w fun e w' => ∃ v S', e = .returned v ∧ R v S' ∧ Sat S' F w'
variable {P : Program} {N : Nat} {G : Env} {S : List HProp} {F : Fr}
theorem Spec.mono {f : FuncId} {args : Array Value} {R R' : Value → List HProp → Prop} (h : Spec P f args S F R) (hr : ∀ v S', R v S' → R' v S') : Spec P f args S F R' :=
 fun w s => (h w s).mono fun _ _ ⟨v, S', he, r, s'⟩ => ⟨v, S', he, hr v S' r, s'⟩
/-- The rest of the heap goes to the frame. -/
theorem Sat.lend {m r : List HProp} {w : World} (s : Sat (m ++ r) F w) : ∃ F' : Fr, Sat m F' w ∧ PH.le F.h F'.h ∧ (∀ b o, pts b o ∈ r → F'.h b = some o) ∧ ∀ m' w', Sat m' F' w' → Sat (m' ++ r) F w' := by
 obtain ⟨a, b, c, d, h, e, f, g⟩ := s
 obtain ⟨h1, h2, dd, rfl, x, y⟩ := stars_append.1 e
 have d1 := PH.disj_union_left f
 have d2 := PH.disj_union_right dd f
 refine ⟨{ F with h := PH.union F.h h2 }, ⟨a, b, c, PH.union_le d ((PH.le_union_right dd).trans g), h1, x, ?_, PH.le_union_left.trans g⟩, PH.le_union_left, fun b o hm => ?_, fun m' w' s' => ?_⟩
 · exact (PH.disj_union d1.symm dd.symm).symm
 · have key : ∀ l : List HProp, pts b o ∈ l → ∀ k, stars l k → k b = some o := by
     intro l
     induction l with
     | nil => intro hm; cases hm
     | cons A l ih =>
       intro hm k hk
       obtain ⟨k1, k2, kd, rfl, ka, kl⟩ := hk
       rcases List.mem_cons.1 hm with rfl | hm
       · rw [show k1 = PH.single b o from ka]; exact PH.le_union_left b o (single_self b o)
       · exact PH.le_union_right kd b o (ih hm k2 kl)
   exact PH.le_union_right d2.symm b o (key r hm h2 y)
 · obtain ⟨a', b', c', d', h', e', f', g'⟩ := s'
   have f1 : PH.disj h' F.h := (PH.disj_union_left f'.symm).symm
   have f2 : PH.disj h' h2 := (PH.disj_union_right d2.symm f'.symm).symm
   refine ⟨a', b', c', PH.le_union_left.trans d', PH.union h' h2, stars_append.2 ⟨h', h2, f2, rfl, e', y⟩, PH.disj_union f1 d2, PH.union_le g' ((PH.le_union_right d2.symm).trans d')⟩
/-- A function that can be entered. -/
def CanEnter (P : Program) (f : FuncId) : Prop := ∃ fn, P.funcs[f]? = some fn ∧ (fn.name == "runtime.NumGoroutine") = false ∧ fn.body.isNone = false
theorem run_enter {f : FuncId} (h : CanEnter P f) (args : Array Value) (w : World) : (callFunc f args).run P w = .ok (.enter f args) w := by
 obtain ⟨fn, hf, hn, hb⟩ := h
 unfold callFunc
 show Sem.run P (Sem.bind (.program .pure) _) w = _
 simp only [Sem.bind, Sem.run, hf, hn, hb]
 rfl
/-- The operands' values. -/
def opvs (G : Env) : List Operand → Option (List Value)
 | [] => some []
 | x :: l => match opv G x, opvs G l with
   | some v, some vs => some (v :: vs)
   | _, _ => none
theorem St.evals {a : Act} {w : World} (s : St N G S F a w) : ∀ {l : List Operand} {vs : List Value}, opvs G l = some vs → l.map a.eval = vs
 | [], vs, h => by simpa [opvs] using h
 | x :: l, vs, h => by
   unfold opvs at h
   split at h
   · rename_i v vs' hv hvs
     simp only [Option.some.injEq] at h
     subst h
     simp [s.eval hv, s.evals hvs]
   · cases h
/-- A call of a Go function by its contract; what it does not ask for stays. -/
theorem EF.call {o : Oper} {f : FuncId} {args : Array Operand} {at_ : Array TypeId} {vs : List Value} {m r : List HProp} {R : Value → List HProp → Prop}
   (ho : o.op = .call ⟨.value (.func f), args, at_⟩) (hc : CanEnter P f) (hv : opvs G args.toList = some vs) (t : Takes S m r)
   (hs : ∀ F' : Fr, PH.le F.h F'.h → (∀ b o, pts b o ∈ r → F'.h b = some o) → Spec P f vs.toArray m F' R) : EF P N G S F o fun v S' => ∃ S1, R v S1 ∧ S' = S1 ++ r := fun a w s => by
 have hargs : args.map a.eval = vs.toArray := by
   have := s.evals hv
   rw [← this]
   apply Array.ext'
   simp
 have hrun : (execOp a.eval o).run P w = .ok (.enter f vs.toArray) w := by
   unfold execOp
   simp only [ho, resolve]
   rw [hargs]
   show (callFunc f _).run P w = _
   rw [run_enter hc]
   simp
 show EStep P o a w _
 unfold EStep
 rw [hrun]
 obtain ⟨F', s1, hle, hr, back⟩ := (s.sat.takes t).lend
 refine (hs F' hle hr w s1).mono fun e w' ⟨v, S', he, hR, s'⟩ => ?_
 subst he
 exact ⟨S' ++ r, ⟨S', hR, rfl⟩, back _ _ s'⟩
/-- At a function's end. -/
def Ends (P : Program) (fn : Func) (F : Fr) (R : Value → List HProp → Prop) : Act → World → Prop :=
 fun a w => a.defers = [] ∧ ∃ v, (results fn a.tmps).run P w = .ok v w ∧ ∃ S', R v S' ∧ Sat S' F w
def initG : List Value → Nat → Env
 | [], _ => .nil
 | v :: l, t => .cons t v (initG l (t + 1))
theorem lk_initG {l : List Value} {t x : Nat} {v : Value} (h : lk (initG l t) x = some v) : t ≤ x ∧ l[x - t]? = some v := by
 induction l generalizing t with
 | nil => cases h
 | cons u l ih =>
   rcases lk_cons h with ⟨rfl, rfl⟩ | ⟨_, h'⟩
   · simp
   · obtain ⟨h1, h2⟩ := ih h'
     refine ⟨by omega, ?_⟩
     rw [show x - t = (x - (t + 1)) + 1 by omega]
     simpa using h2
theorem Spec.intro {f : FuncId} {fn : Func} {c : Code} {args : List Value} {R : Value → List HProp → Prop} (hf : P.funcs[f]? = some fn) (hb : fn.body = some c) (hN : fn.ntmps = N) (hl : args.length ≤ N)
   (h : Run P N c ⟨Ends P fn F R, Ends P fn F R, []⟩ (initG args 0) S F) : Spec P f args.toArray S F R := fun w s => by
 refine calls_of_wp hf hb (wp_mono (h _ w ⟨rfl, by simp [hN]; omega, fun t v e => ?_, s⟩) fun e a' w' q => ?_)
 · obtain ⟨_, h2⟩ := lk_initG e
   have hlt := (List.getElem?_eq_some_iff.1 h2).1
   simp only [Nat.sub_zero] at h2 hlt
   rw [Array.getElem?_append_left (by simpa using hlt)]
   simpa using h2
 · cases e with
   | normal => obtain ⟨h1, v, h2, S', h3, h4⟩ := q; exact ⟨h1, v, h2, v, S', rfl, h3, h4⟩
   | ret => obtain ⟨h1, v, h2, S', h3, h4⟩ := q; exact ⟨h1, v, h2, v, S', rfl, h3, h4⟩
   | exit id => exact q.elim
   | goto l => exact q.elim
   | panic c => exact q.elim
   | outgrown => exact q.elim
theorem J.ends {fn : Func} {R : Value → List HProp → Prop} {v : Value} {m r : List HProp} (hv : J N G S F fun a w => (results fn a.tmps).run P w = .ok v w) (t : Takes S m r) (hR : R v m) : J N G S F (Ends P fn F R) :=
 fun a w s => ⟨s.defers, v, hv a w s, m, hR, (s.sat.takes t).dropR⟩
theorem res_tmp {fn : Func} {t : Nat} {v : Value} (h : fn.results = #[.tmp t]) (hv : lk G t = some v) : J N G S F fun a w => (results fn a.tmps).run P w = .ok v w := fun a w s => by
 have := s.slots t v hv
 simp [results, h, this, pure, Sem.run]
theorem res_tmp2 {fn : Func} {t u : Nat} {v x : Value} (h : fn.results = #[.tmp t, .tmp u]) (hv : lk G t = some v) (hx : lk G u = some x) : J N G S F fun a w => (results fn a.tmps).run P w = .ok (.tuple #[v, x]) w := fun a w s => by
 have h1 := s.slots t v hv
 have h2 := s.slots u x hx
 simp [results, h, h1, h2, pure, Sem.run]
theorem res_none {fn : Func} (h : fn.results = #[]) : J N G S F fun a w => (results fn a.tmps).run P w = .ok (.tuple #[]) w := fun a w s => by
 simp [results, h, pure, Sem.run]
end funcs
end Slb

/- Base 4: the operations that compute, read, write, and make memory. -/
namespace Slb
open Go

/-- A type's cells. -/
def Sz (P : Program) (t : TypeId) (k : Nat) : Prop := ∀ w, (Go.sizeOf t).run P w = .ok k w
section quiet
variable {P : Program} {N : Nat} {G : Env} {S : List HProp} {F : Fr} {o : Oper}
theorem QP.move {x : Operand} {v : Value} (ho : o.op = .move x) (hv : opv G x = some v) : QP P N G S F o v := fun a w s w' => by
 unfold execOp; simp [ho, s.eval hv]
theorem QP.assign {x : Operand} {v : Value} (ho : o.op = .assign x) (hv : opv G x = some v) : QP P N G S F o v := fun a w s w' => by
 unfold execOp; simp [ho, s.eval hv]
theorem QP.pick_t {c x y : Operand} {v : Value} (ho : o.op = .pick c x y) (hc : opv G c = some (.bool true)) (hv : opv G x = some v) : QP P N G S F o v := fun a w s w' => by
 unfold execOp; simp [ho, s.eval hc, s.eval hv, asBool]
theorem QP.pick_f {c x y : Operand} {v : Value} (ho : o.op = .pick c x y) (hc : opv G c = some (.bool false)) (hv : opv G y = some v) : QP P N G S F o v := fun a w s w' => by
 unfold execOp; simp [ho, s.eval hc, s.eval hv, asBool]
/-- A field's place. -/
def FieldA (P : Program) (s : TypeId) (f n : Nat) : Prop := ∀ (a : Addr) (w : World), (Instr.fieldAt s (.pointer (some a)) f).run P w = .ok (.pointer (some (a.add n))) w
theorem add_lit (b o n : Nat) : Addr.add ⟨b, o, none⟩ n = ⟨b, o + n, none⟩ := by unfold Addr.add; split <;> simp_all
theorem QP.fieldAddr {t : TypeId} {x : Operand} {f n b off : Nat} (ho : o.op = .fieldAddr t x f) (hx : opv G x = some (.pointer (some ⟨b, off, none⟩))) (hf : FieldA P t f n) :
   QP P N G S F o (.pointer (some ⟨b, off + n, none⟩)) := fun a w s w' => by
 have hf' := hf ⟨b, off, none⟩ w'
 unfold execOp; simp [ho, s.eval hx, hf', add_lit]
theorem QP.nilCheck {x : Operand} {a : Addr} (ho : o.op = .nilCheck x) (hx : opv G x = some (.pointer (some a))) : QP P N G S F o (.pointer (some a)) := fun a w s w' => by
 unfold execOp; simp [ho, s.eval hx]
theorem QP.extract {x : Operand} {vs : Array Value} {i : Nat} {v : Value} (ho : o.op = .extract x i) (hx : opv G x = some (.tuple vs)) (hv : vs[i]? = some v) : QP P N G S F o v := fun a w s w' => by
 unfold execOp; simp [ho, s.eval hx, Instr.extract, hv]
theorem QP.not {t : TypeId} {x : Operand} {b : Bool} (ho : o.op = .unOp .not t x) (hx : opv G x = some (.bool b)) : QP P N G S F o (.bool !b) := fun a w s w' => by
 unfold execOp; simp [ho, s.eval hx, Op.unary]
theorem QP.neg {t : TypeId} {x : Operand} {k : IntKind} {n : Int} (ho : o.op = .unOp .neg t x) (hx : opv G x = some (.int k n)) : QP P N G S F o (.int k (k.wrap (-n))) := fun a w s w' => by
 unfold execOp; simp [ho, s.eval hx, Op.unary, Op.intArith]
section ints
variable {t t' : TypeId} {x y : Operand} {k : IntKind} {m n : Int}
theorem QP.add (ho : o.op = .binOp .add t x y t') (hx : opv G x = some (.int k m)) (hy : opv G y = some (.int k n)) : QP P N G S F o (.int k (k.wrap (m + n))) := fun a w s w' => by
 unfold execOp; simp [ho, s.eval hx, s.eval hy, eqGuard_at_int, binOp, Op.intArith]
theorem QP.sub (ho : o.op = .binOp .sub t x y t') (hx : opv G x = some (.int k m)) (hy : opv G y = some (.int k n)) : QP P N G S F o (.int k (k.wrap (m - n))) := fun a w s w' => by
 unfold execOp; simp [ho, s.eval hx, s.eval hy, eqGuard_at_int, binOp, Op.intArith]
theorem QP.mul (ho : o.op = .binOp .mul t x y t') (hx : opv G x = some (.int k m)) (hy : opv G y = some (.int k n)) : QP P N G S F o (.int k (k.wrap (m * n))) := fun a w s w' => by
 unfold execOp; simp [ho, s.eval hx, s.eval hy, eqGuard_at_int, binOp, Op.intArith]
theorem wrap_i64 {n : Int} (h1 : -9223372036854775808 ≤ n) (h2 : n < 9223372036854775808) : IntKind.i64.wrap n = n := by
 exact Go.IntWalk.i64_in n (by omega)
theorem QP.add64 (ho : o.op = .binOp .add t x y t') (hx : opv G x = some (.int .i64 m)) (hy : opv G y = some (.int .i64 n)) (h1 : -9223372036854775808 ≤ m + n) (h2 : m + n < 9223372036854775808) : QP P N G S F o (.int .i64 (m + n)) := by
 have := QP.add (P := P) (N := N) (S := S) (F := F) ho hx hy
 rwa [wrap_i64 h1 h2] at this
theorem QP.sub64 (ho : o.op = .binOp .sub t x y t') (hx : opv G x = some (.int .i64 m)) (hy : opv G y = some (.int .i64 n)) (h1 : -9223372036854775808 ≤ m - n) (h2 : m - n < 9223372036854775808) : QP P N G S F o (.int .i64 (m - n)) := by
 have := QP.sub (P := P) (N := N) (S := S) (F := F) ho hx hy
 rwa [wrap_i64 h1 h2] at this
theorem QP.lss (ho : o.op = .binOp .lss t x y t') (hx : opv G x = some (.int k m)) (hy : opv G y = some (.int k n)) : QP P N G S F o (.bool (decide (m < n))) := fun a w s w' => by
 unfold execOp; simp [ho, s.eval hx, s.eval hy, eqGuard_at_int, binOp, Op.intCmp]
theorem QP.leq (ho : o.op = .binOp .leq t x y t') (hx : opv G x = some (.int k m)) (hy : opv G y = some (.int k n)) : QP P N G S F o (.bool (decide (m ≤ n))) := fun a w s w' => by
 unfold execOp; simp [ho, s.eval hx, s.eval hy, eqGuard_at_int, binOp, Op.intCmp]
theorem QP.gtr (ho : o.op = .binOp .gtr t x y t') (hx : opv G x = some (.int k m)) (hy : opv G y = some (.int k n)) : QP P N G S F o (.bool (decide (n < m))) := fun a w s w' => by
 unfold execOp; simp [ho, s.eval hx, s.eval hy, eqGuard_at_int, binOp, Op.intCmp]
theorem QP.geq (ho : o.op = .binOp .geq t x y t') (hx : opv G x = some (.int k m)) (hy : opv G y = some (.int k n)) : QP P N G S F o (.bool (decide (n ≤ m))) := fun a w s w' => by
 unfold execOp; simp [ho, s.eval hx, s.eval hy, eqGuard_at_int, binOp, Op.intCmp]
theorem QP.eql (ho : o.op = .binOp .eql t x y t') (hx : opv G x = some (.int k m)) (hy : opv G y = some (.int k n)) : QP P N G S F o (.bool (decide (m = n))) := fun a w s w' => by
 unfold execOp; simp [ho, s.eval hx, s.eval hy, eqGuard_at_int, binOp, Op.intCmp]; by_cases h : m = n <;> simp [h]
theorem QP.neq (ho : o.op = .binOp .neq t x y t') (hx : opv G x = some (.int k m)) (hy : opv G y = some (.int k n)) : QP P N G S F o (.bool (decide (m ≠ n))) := fun a w s w' => by
 unfold execOp; simp [ho, s.eval hx, s.eval hy, eqGuard_at_int, binOp, Op.intCmp]; by_cases h : m = n <;> simp [h]
theorem QP.conv {dst : IntKind} (ho : o.op = .convert t t' x) (hx : opv G x = some (.int k m)) (h1 : P.underlying t = some (.int k)) (h2 : P.underlying t' = some (.int dst)) : QP P N G S F o (.int dst (dst.wrap m)) := fun a w s w' => by
 unfold execOp; simp [ho, s.eval hx, convert, run_underlying h1, run_underlying h2, Conv.intToInt]
end ints
section ptrs
variable {t t' : TypeId} {x y : Operand} {e : TypeId}
theorem pointee_of (ht : P.underlying t = some (.pointer e)) : P.underlying t = some (.pointer (P.pointee t)) := by
 unfold Program.pointee; rw [ht]
theorem QP.ptr_eq_nil {p : Option Addr} (ho : o.op = .binOp .eql t x y t') (hx : opv G x = some (.pointer p)) (hy : opv G y = some (.pointer none)) (ht : P.underlying t = some (.pointer e)) : QP P N G S F o (.bool p.isNone) := fun a w s w' => by
 unfold execOp; simp only [ho, s.eval hx, s.eval hy, eqGuard_at_pointer]; simp [run_eql_pointer_nil w' t p (pointee_of ht)]
theorem QP.ptr_ne_nil {p : Option Addr} (ho : o.op = .binOp .neq t x y t') (hx : opv G x = some (.pointer p)) (hy : opv G y = some (.pointer none)) (ht : P.underlying t = some (.pointer e)) : QP P N G S F o (.bool p.isSome) := fun a w s w' => by
 unfold execOp; simp only [ho, s.eval hx, s.eval hy, eqGuard_at_pointer]; simp [run_neq_pointer_nil w' t p (pointee_of ht)]
end ptrs
section slices
variable {t e : TypeId} {x y : Operand}
theorem QP.len {ts : Array TypeId} {b : Option Addr} {n c : Nat} (ho : o.op = .call ⟨.builtin .len, #[x], ts⟩) (hx : opv G x = some (.slice b n c)) (ht : ts[0]? = some t) (hu : P.underlying t = some (.slice e)) :
   QP P N G S F o (.int .i64 n) := fun a w s w' => by
 unfold execOp; simp [ho, s.eval hx, resolve, Go.invoke, Go.builtin, Builtin.len_, ht, run_underlying hu, goInt]
theorem QP.lenS {ts : Array TypeId} {b : ByteArray} (ho : o.op = .call ⟨.builtin .len, #[x], ts⟩) (hx : opv G x = some (.string b)) (ht : ts[0]? = some t) (hu : P.underlying t = some .string) :
   QP P N G S F o (.int .i64 b.size) := fun a w s w' => by
 unfold execOp; simp [ho, s.eval hx, resolve, Go.invoke, Go.builtin, Builtin.len_, ht, run_underlying hu, goInt]
theorem QP.indexAddr {k : IntKind} {i : Int} {b off n c z : Nat} (ho : o.op = .indexAddr t x y) (hx : opv G x = some (.slice (some ⟨b, off, none⟩) n c)) (hy : opv G y = some (.int k i))
   (hu : P.underlying t = some (.slice e)) (hz : Sz P e z) (h0 : 0 ≤ i) (h1 : i < n) : QP P N G S F o (.pointer (some ⟨b, off + i.toNat * z, none⟩)) := fun a w s w' => by
 unfold execOp; simp [ho, s.eval hx, s.eval hy, Instr.indexAt, asIntOf, run_underlying hu, h0, h1, hz w', add_lit]
theorem QP.indexArr {k : IntKind} {i : Int} {b off n z : Nat} (ho : o.op = .indexAddr t x y) (hx : opv G x = some (.pointer (some ⟨b, off, none⟩))) (hy : opv G y = some (.int k i))
   (hu : P.underlying t = some (.array n e)) (hz : Sz P e z) (h0 : 0 ≤ i) (h1 : i < n) : QP P N G S F o (.pointer (some ⟨b, off + i.toNat * z, none⟩)) := fun a w s w' => by
 unfold execOp; simp [ho, s.eval hx, s.eval hy, Instr.indexAt, asIntOf, Instr.sureAddr, run_underlying hu, h0, h1, hz w', add_lit]
/-- The whole of an array. -/
theorem QP.sliceArr {b off n z : Nat} (ho : o.op = .slice t x none none none) (hx : opv G x = some (.pointer (some ⟨b, off, none⟩))) (hu : P.underlying t = some (.array n e)) (hz : Sz P e z) :
   QP P N G S F o (.slice (some ⟨b, off, none⟩) n n) := fun a w s w' => by
 unfold execOp
 simp [ho, s.eval hx, Instr.sliceAt, Instr.sureAddr, Instr.sliceBounds, run_underlying hu, hz w']
 by_cases h : n = 0 <;> simp [h, add_lit]
end slices
end quiet

/-- Cells off .. off + n of a row. -/
def SubL (l : List Value) (off n : Nat) (s : List Value) : Prop := ∃ pre post, l = pre ++ s ++ post ∧ pre.length = off ∧ s.length = n
theorem SubL.all (l : List Value) : SubL l 0 l.length l := ⟨[], [], by simp, rfl, rfl⟩
theorem SubL.trans {l s u : List Value} {a b n m : Nat} (h : SubL l a n s) (k : SubL s b m u) : SubL l (a + b) m u := by
 obtain ⟨p1, q1, rfl, rfl, rfl⟩ := h
 obtain ⟨p2, q2, rfl, rfl, rfl⟩ := k
 exact ⟨p1 ++ p2, q2 ++ q1, by simp, by simp, rfl⟩
theorem SubL.get {l s : List Value} {off n i : Nat} (h : SubL l off n s) (hi : i < n) : l[off + i]? = s[i]? := by
 obtain ⟨p, q, rfl, rfl, rfl⟩ := h
 rw [List.append_assoc, List.getElem?_append_right (by omega), List.getElem?_append_left (by omega)]
 congr 1; omega
theorem SubL.left {l s m : List Value} {off n : Nat} (h : SubL l off n s) : SubL (l ++ m) off n s := by
 obtain ⟨p, q, rfl, rfl, rfl⟩ := h
 exact ⟨p, q ++ m, by simp, rfl, rfl⟩
theorem SubL.right {l s m : List Value} {off n k : Nat} (hm : m.length = k) (h : SubL l off n s) : SubL (m ++ l) (k + off) n s := by
 obtain ⟨p, q, rfl, rfl, rfl⟩ := h
 exact ⟨m ++ p, q, by simp, by simp [hm], rfl⟩
/-- The same with other cells there. -/
def SetL (l : List Value) (off n : Nat) (s l' : List Value) : Prop := ∃ pre mid post, l = pre ++ mid ++ post ∧ l' = pre ++ s ++ post ∧ pre.length = off ∧ mid.length = n ∧ s.length = n
theorem SetL.all {l s : List Value} {n : Nat} (h1 : l.length = n) (h2 : s.length = n) : SetL l 0 n s s := ⟨[], l, [], by simp, by simp, rfl, h1, h2⟩
theorem SetL.trans {l u u' s l' : List Value} {a b n m : Nat} (h : SetL l a n u' l') (hu : SubL l a n u) (k : SetL u b m s u') : SetL l (a + b) m s l' := by
 obtain ⟨p1, m1, q1, rfl, rfl, rfl, hm, hu'⟩ := h
 obtain ⟨p2, m2, q2, rfl, rfl, rfl, rfl, hs⟩ := k
 obtain ⟨p3, q3, e, hp, hl⟩ := hu
 have h1 := List.append_inj (show p1 ++ (m1 ++ q1) = p3 ++ (p2 ++ m2 ++ q2 ++ q3) by simpa using e) hp.symm
 have h2 := List.append_inj h1.2 (hm.trans hl.symm)
 have e1 := h2.1
 subst e1
 exact ⟨p1 ++ p2, m2, q2 ++ q1, by simp, by simp, by simp, rfl, hs⟩
theorem SetL.left {l s l' m : List Value} {off n : Nat} (h : SetL l off n s l') : SetL (l ++ m) off n s (l' ++ m) := by
 obtain ⟨p, x, q, rfl, rfl, rfl, h1, h2⟩ := h
 exact ⟨p, x, q ++ m, by simp, by simp, rfl, h1, h2⟩
theorem SetL.right {l s l' m : List Value} {off n k : Nat} (hm : m.length = k) (h : SetL l off n s l') : SetL (m ++ l) (k + off) n s (m ++ l') := by
 obtain ⟨p, x, q, rfl, rfl, rfl, h1, h2⟩ := h
 exact ⟨m ++ p, x, q, by simp, by simp, by simp [hm], h1, h2⟩

theorem SubL.one {v : Value} : SubL [v] 0 1 [v] := SubL.all [v]
theorem SetL.one {v u : Value} : SetL [v] 0 1 [u] [u] := SetL.all rfl rfl
/-- A type of several cells, of one. -/
structure Agg (P : Program) (t : TypeId) (k : Nat) : Prop where
 agg : ∀ w, (isAgg t).run P w = .ok true w
 size : Sz P t k
structure Sca (P : Program) (t : TypeId) : Prop where
 agg : ∀ w, (isAgg t).run P w = .ok false w
 size : Sz P t 1

theorem cell_at {w : World} {b off : Nat} {l : List Value} {ty : TypeId} {fz : Nat × Nat} (h : w.heap[b]? = some (.cells l.toArray ty fz)) : w.cell? ⟨b, off, none⟩ = l[off]? := by
 unfold World.cell?; simp [h]
theorem run_loadCells {P : Program} {w : World} {b : Nat} {l : List Value} {ty : TypeId} {fz : Nat × Nat} (h : w.heap[b]? = some (.cells l.toArray ty fz)) {off : Nat} (s : List Value) :
   ∀ (r : List Value) (i : Nat) (acc : Array Value), (∀ j, j < r.length → l[off + (i + j)]? = r[j]?) → (loadCellsFrom ⟨b, off, none⟩ i r.length acc).run P w = .ok (acc ++ r.toArray) w := by
 have := s
 intro r
 induction r with
 | nil => intro i acc _; simp [loadCellsFrom]
 | cons v r ih =>
   intro i acc hr
   have h0 := hr 0 (by simp)
   simp only [Nat.add_zero, List.getElem?_cons_zero] at h0
   simp only [List.length_cons, loadCellsFrom, Sem.run_bind]
   rw [add_lit]
   have : (load ⟨b, off + i, none⟩).run P w = .ok v w := by
     unfold load
     simp only [Sem.run, cell_at h, h0]
   rw [this]
   simp only [Result.andThen_ok]
   rw [ih (i + 1) (acc.push v) (fun j hj => by
     have := hr (j + 1) (by simp; omega)
     rw [show i + 1 + j = i + (j + 1) by omega]
     simpa using this)]
   simp
theorem run_loadAgg {P : Program} {t : TypeId} {k : Nat} (ht : Agg P t k) {w : World} {b off : Nat} {l s : List Value} {ty : TypeId} {fz : Nat × Nat} (h : w.heap[b]? = some (.cells l.toArray ty fz)) (hs : SubL l off k s) :
   (loadVar t ⟨b, off, none⟩).run P w = .ok (.agg s.toArray) w := by
 unfold loadVar
 simp only [Sem.run_bind, ht.agg w, Result.andThen_ok, if_true, ht.size w]
 have hk : s.length = k := hs.choose_spec.choose_spec.2.2
 have := run_loadCells (P := P) h (off := off) [] s 0 #[] (fun j hj => by rw [Nat.zero_add]; exact hs.get (by omega))
 unfold loadCells
 rw [hk] at this
 rw [this]
 simp
theorem run_loadSca {P : Program} {t : TypeId} (ht : Sca P t) {w : World} {b off : Nat} {l : List Value} {v : Value} {ty : TypeId} {fz : Nat × Nat} (h : w.heap[b]? = some (.cells l.toArray ty fz)) (hs : SubL l off 1 [v]) :
   (loadVar t ⟨b, off, none⟩).run P w = .ok v w := by
 unfold loadVar
 simp only [Sem.run_bind, ht.agg w, Result.andThen_ok]
 have h0 := hs.get (i := 0) (by omega)
 unfold load
 simp only [Bool.false_eq_true, if_false, Sem.run, cell_at h]
 rw [show l[off]? = some v by simpa using h0]

/-- The row that block b is. -/
def Rd (S : List HProp) (F : Fr) (b : Nat) (l : List Value) : Prop := (∃ ty, blk b l ty ∈ S) ∨ ∃ ty fz, F.h b = some (.cells l.toArray ty fz)
theorem Rd.own {S : List HProp} {F : Fr} {b : Nat} {l : List Value} {ty : TypeId} (h : blk b l ty ∈ S) : Rd S F b l := .inl ⟨ty, h⟩
theorem Rd.fr {S : List HProp} {F : Fr} {b : Nat} {l : List Value} {ty : TypeId} {fz : Nat × Nat} (h : F.h b = some (.cells l.toArray ty fz)) : Rd S F b l := .inr ⟨ty, fz, h⟩
theorem mem_perm {A : HProp} {S : List HProp} (h : A ∈ S) : ∃ r, S.Perm (A :: r) := by
 induction S with
 | nil => cases h
 | cons B S ih =>
   rcases List.mem_cons.1 h with rfl | h
   · exact ⟨S, List.Perm.refl _⟩
   · obtain ⟨r, hr⟩ := ih h
     exact ⟨B :: r, (List.Perm.cons _ hr).trans (List.Perm.swap _ _ _)⟩
theorem Sat.mem {S : List HProp} {F : Fr} {w : World} {b : Nat} {o : Obj} (s : Sat S F w) (h : pts b o ∈ S) : w.heap[b]? = some o := by
 obtain ⟨r, hr⟩ := mem_perm h
 exact (s.perm hr).at
theorem Rd.at {S : List HProp} {F : Fr} {b : Nat} {l : List Value} {w : World} (h : Rd S F b l) (s : Sat S F w) : ∃ ty fz, w.heap[b]? = some (.cells l.toArray ty fz) := by
 rcases h with ⟨ty, hm⟩ | ⟨ty, fz, hf⟩
 · exact ⟨ty, _, s.mem hm⟩
 · exact ⟨ty, fz, s.frame hf⟩

/-- Block b is an atom of S: found by instances. -/
class HasBlk (b : Nat) (S : List HProp) (l : outParam (List Value)) (ty : outParam TypeId) : Prop where
 mem : blk b l ty ∈ S
instance HasBlk.head {b : Nat} {S : List HProp} {l : List Value} {ty : TypeId} : HasBlk b (blk b l ty :: S) l ty := ⟨List.mem_cons_self⟩
instance (priority := low) HasBlk.tail {b : Nat} {A : HProp} {S : List HProp} {l : List Value} {ty : TypeId} [h : HasBlk b S l ty] : HasBlk b (A :: S) l ty := ⟨List.mem_cons_of_mem _ h.mem⟩
class UpdBlk (b : Nat) (S : List HProp) (l : outParam (List Value)) (ty : outParam TypeId) (C : outParam (List Value → List HProp)) : Prop where
 upd : ∀ l', Upd S (blk b l ty) (blk b l' ty) (C l')
instance UpdBlk.head {b : Nat} {S : List HProp} {l : List Value} {ty : TypeId} : UpdBlk b (blk b l ty :: S) l ty (fun l' => blk b l' ty :: S) := ⟨fun _ => .head⟩
instance (priority := low) UpdBlk.tail {b : Nat} {A : HProp} {S : List HProp} {l : List Value} {ty : TypeId} {C : List Value → List HProp} [h : UpdBlk b S l ty C] : UpdBlk b (A :: S) l ty (fun l' => A :: C l') := ⟨fun l' => .tail (h.upd l')⟩
/-- Two lists behind one another. -/
class App (a b : List HProp) (c : outParam (List HProp)) : Prop where
 eq : a ++ b = c
instance App.nil {b : List HProp} : App [] b b := ⟨rfl⟩
instance App.cons {A : HProp} {a b c : List HProp} [h : App a b c] : App (A :: a) b (A :: c) := ⟨by rw [List.cons_append, h.eq]⟩
theorem J.app {N : Nat} {G : Env} {a b c : List HProp} {F : Fr} {Φ : Act → World → Prop} [h : App a b c] (j : J N G c F Φ) : J N G (a ++ b) F Φ := by rw [h.eq]; exact j
section reads
variable {P : Program} {N : Nat} {G : Env} {S : List HProp} {F : Fr} {o : Oper} {t : TypeId} {x : Operand} {b off : Nat} {l : List Value}
theorem QR.loadR {k : Nat} {s : List Value} (ho : o.op = .load t x) (hx : opv G x = some (.pointer (some ⟨b, off, none⟩))) (ht : Agg P t k) (hr : Rd S F b l) (hs : SubL l off k s) : QR P N G S F o (.agg s.toArray) := fun a w st => by
 obtain ⟨ty, fz, h⟩ := hr.at st.sat
 unfold execOp; simp [ho, st.eval hx, Instr.loadAt, Instr.sureAddr, run_loadAgg ht h hs]
theorem QR.load1R {v : Value} (ho : o.op = .load t x) (hx : opv G x = some (.pointer (some ⟨b, off, none⟩))) (ht : Sca P t) (hr : Rd S F b l) (hs : SubL l off 1 [v]) : QR P N G S F o v := fun a w st => by
 obtain ⟨ty, fz, h⟩ := hr.at st.sat
 unfold execOp; simp [ho, st.eval hx, Instr.loadAt, Instr.sureAddr, run_loadSca ht h hs]
theorem QR.load {k : Nat} {s : List Value} {ty : TypeId} (ho : o.op = .load t x) (hx : opv G x = some (.pointer (some ⟨b, off, none⟩))) (ht : Agg P t k) [hb : HasBlk b S l ty] (hs : SubL l off k s) : QR P N G S F o (.agg s.toArray) := QR.loadR ho hx ht (.own hb.mem) hs
theorem QR.load1 {v : Value} {ty : TypeId} (ho : o.op = .load t x) (hx : opv G x = some (.pointer (some ⟨b, off, none⟩))) (ht : Sca P t) [hb : HasBlk b S l ty] (hs : SubL l off 1 [v]) : QR P N G S F o v := QR.load1R ho hx ht (.own hb.mem) hs
theorem QR.load1F {v : Value} {ty : TypeId} {fz : Nat × Nat} (ho : o.op = .load t x) (hx : opv G x = some (.pointer (some ⟨b, off, none⟩))) (ht : Sca P t) (hb : F.h b = some (.cells l.toArray ty fz)) (hs : SubL l off 1 [v]) : QR P N G S F o v := QR.load1R ho hx ht (.fr hb) hs
end reads

/-- A value that fits a cell. -/
def Value.cellB : Value → Bool
 | .agg _ | .tuple _ => false
 | _ => true
theorem setCell_heap {w : World} {b off : Nat} {l : List Value} {ty : TypeId} {fz : Nat × Nat} (h : w.heap[b]? = some (.cells l.toArray ty fz)) (v : Value) :
   (w.setCell ⟨b, off, none⟩ v).heap[b]? = some (.cells (l.set off v).toArray ty fz) ∧ ∀ c, c ≠ b → (w.setCell ⟨b, off, none⟩ v).heap[c]? = w.heap[c]? := by
 obtain ⟨hlt, he⟩ := Array.getElem?_eq_some_iff.1 h
 unfold World.setCell
 constructor
 · simp only [Array.getElem?_modify, if_true, h]
   simp
 · intro c hc
   simp only [Array.getElem?_modify, if_neg (Ne.symm hc)]
theorem run_storeCells {P : Program} {b off : Nat} {ty : TypeId} : ∀ (s : List Value) (i : Nat) (w : World) (l : List Value), w.heap[b]? = some (.cells l.toArray ty (0, 0)) → off + i + s.length ≤ l.length → (∀ v ∈ s, Value.cellB v = true) →
   ∃ w', (storeCells ⟨b, off, none⟩ s i).run P w = .ok () w' ∧ w'.os = w.os ∧ w'.tape = w.tape ∧ (w'.output = w.output ∧ w.drawn ≤ w'.drawn) ∧
     w'.heap[b]? = some (.cells (l.take (off + i) ++ s ++ l.drop (off + i + s.length)).toArray ty (0, 0)) ∧ ∀ c, c ≠ b → w'.heap[c]? = w.heap[c]? := by
 intro s
 induction s with
 | nil => intro i w l h _ _; exact ⟨w, by simp [storeCells], rfl, rfl, ⟨rfl, Nat.le_refl _⟩, by simpa using h, fun _ _ => rfl⟩
 | cons v s ih =>
   intro i w l h hl hv
   simp only [List.length_cons] at hl
   have hcell : w.cell? ⟨b, off + i, none⟩ = some (l[off + i]'(by omega)) := by rw [cell_at h]; exact List.getElem?_eq_getElem _
   have hfz : w.frozen? ⟨b, off + i, none⟩ = false := by unfold World.frozen?; simp [h]
   have h1 : (store ⟨b, off + i, none⟩ v).run P w = .ok () (w.setCell ⟨b, off + i, none⟩ v) := by
     unfold store
     have := hv v List.mem_cons_self
     cases v <;> simp [Value.cellB] at this <;> simp [Sem.run, hcell, hfz]
   obtain ⟨hb, hc⟩ := setCell_heap (off := off + i) h v
   obtain ⟨w', e1, e2, e3, e4, e5, e6⟩ := ih (i + 1) _ _ hb (by simp; omega) (fun u hu => hv u (List.mem_cons_of_mem _ hu))
   refine ⟨w', ?_, e2, e3, e4, ?_, fun c hc' => (e6 c hc').trans (hc c hc')⟩
   · simp only [storeCells, Sem.run_bind, add_lit, h1, Result.andThen_ok]
     exact e1
   · rw [e5]
     congr 3
     have : off + i < l.length := by omega
     rw [show off + (i + 1) = off + i + 1 by omega, List.drop_set_of_lt (by omega)]
     rw [List.take_add_one, List.getElem?_set_self this]
     simp only [Option.toList_some, List.take_set_of_le (Nat.le_refl _), List.length_cons]
     rw [show off + i + (s.length + 1) = off + i + 1 + s.length by omega]
     simp

section effects
variable {P : Program} {N : Nat} {G : Env} {S : List HProp} {F : Fr} {o : Oper} {t : TypeId} {x y : Operand}
theorem estep_value {a : Act} {w w' : World} {v : Value} {next : Value → World → Prop} (h : (execOp a.eval o).run P w = .ok (.value v) w') (hn : next v w') : EStep P o a w next := by
 unfold EStep; rw [h]; exact hn
theorem estep_skip {a : Act} {w w' : World} {next : Value → World → Prop} (h : (execOp a.eval o).run P w = .ok .skip w') (hn : next undef w') : EStep P o a w next := by
 unfold EStep; rw [h]; exact hn
theorem EF.box {v : Value} (ho : o.op = .box t x) (hx : opv G x = some v) : EF P N G S F o fun u S' => ∃ b, u = .pointer (some ⟨b, 0, none⟩) ∧ S' = blk b v.cells.toList t :: S := fun a w st => by
 refine estep_value (v := .pointer (some ⟨w.heap.size, 0, none⟩)) (w' := { w with heap := w.heap.push (.cells v.cells t) }) ?_ ⟨_, ⟨_, rfl, rfl⟩, ?_⟩
 · unfold execOp; simp [ho, st.eval hx, Instr.box, newVar, newRow, newObj, Sem.run]
 · have := st.sat.new (.cells v.cells t)
   unfold blk; simpa using this
theorem EF.boxA {l : List Value} (ho : o.op = .box t x) (hx : opv G x = some (.agg l.toArray)) : EF P N G S F o fun u S' => ∃ b, u = .pointer (some ⟨b, 0, none⟩) ∧ S' = blk b l t :: S := EF.box ho hx
theorem EF.box1 {v : Value} (ho : o.op = .box t x) (hx : opv G x = some v) (hv : v.cells = #[v]) : EF P N G S F o fun u S' => ∃ b, u = .pointer (some ⟨b, 0, none⟩) ∧ S' = blk b [v] t :: S := by
 have := EF.box (P := P) (N := N) (S := S) (F := F) ho hx
 rwa [hv] at this
/-- A type's zero value. -/
def Zero (P : Program) (t : TypeId) (v : Value) : Prop := ∀ w, (zeroValue t).run P w = .ok v w
theorem EF.alloc {v : Value} (ho : o.op = .alloc t) (hz : Zero P t v) : EF P N G S F o fun u S' => ∃ b, u = .pointer (some ⟨b, 0, none⟩) ∧ S' = blk b v.cells.toList t :: S := fun a w st => by
 refine estep_value (v := .pointer (some ⟨w.heap.size, 0, none⟩)) (w' := { w with heap := w.heap.push (.cells v.cells t) }) ?_ ⟨_, ⟨_, rfl, rfl⟩, ?_⟩
 · have := hz w
   unfold execOp; simp [ho, Instr.alloc, this, newVar, newRow, newObj, Sem.run]
 · have := st.sat.new (.cells v.cells t)
   unfold blk; simpa using this
theorem EF.allocA {l : List Value} (ho : o.op = .alloc t) (hz : Zero P t (.agg l.toArray)) : EF P N G S F o fun u S' => ∃ b, u = .pointer (some ⟨b, 0, none⟩) ∧ S' = blk b l t :: S := EF.alloc ho hz
theorem EF.alloc1 {v : Value} (ho : o.op = .alloc t) (hz : Zero P t v) (hv : v.cells = #[v]) : EF P N G S F o fun u S' => ∃ b, u = .pointer (some ⟨b, 0, none⟩) ∧ S' = blk b [v] t :: S := by
 have := EF.alloc (P := P) (N := N) (G := G) (S := S) (F := F) ho hz
 rwa [hv] at this
theorem Sat.upd {A B : HProp} {S S' : List HProp} {F : Fr} {w : World} (u : Upd S A B S') (s : Sat S F w) : ∃ r, Sat (A :: r) F w ∧ ∀ w', Sat (B :: r) F w' → Sat S' F w' := by
 obtain ⟨r, h1, h2⟩ := u.perm
 exact ⟨r, s.perm h1, fun w' s' => s'.perm h2.symm⟩
theorem EF.storeU {b off n : Nat} {v : Value} {l l' : List Value} {ty : TypeId} {S' : List HProp} (ho : o.op = .store t x y) (hx : opv G x = some (.pointer (some ⟨b, off, none⟩))) (hy : opv G y = some v)
   (hz : Sz P t n) (hs : SetL l off n v.cells.toList l') (hv : ∀ u ∈ v.cells.toList, Value.cellB u = true) (u : Upd S (blk b l ty) (blk b l' ty) S') :
   EF P N G S F o fun _ S2 => S2 = S' := fun a w st => by
 obtain ⟨r, s1, back⟩ := Sat.upd u st.sat
 have hb : w.heap[b]? = some (.cells l.toArray ty (0, 0)) := s1.at
 obtain ⟨pre, mid, post, rfl, rfl, rfl, rfl, hlen⟩ := hs
 obtain ⟨w', e1, e2, e3, e4, e5, e6⟩ := run_storeCells (P := P) (off := pre.length) v.cells.toList 0 w _ hb (by simp; simp at hlen; omega) hv
 refine estep_skip (w' := w') ?_ ⟨S', rfl, back _ (s1.set _ e2 e3 e4 ?_ e6)⟩
 · have hsz : v.cells.size = mid.length := by simpa using hlen
   unfold execOp; simp [ho, st.eval hx, st.eval hy, Instr.storeAt, Instr.sureAddr, storeVar, hz w, hsz, e1]
 · rw [e5]
   congr 3
   rw [hlen]
   simp
theorem EF.store {b off n : Nat} {v : Value} {l l' : List Value} {ty : TypeId} {C : List Value → List HProp} (ho : o.op = .store t x y) (hx : opv G x = some (.pointer (some ⟨b, off, none⟩))) (hy : opv G y = some v)
 (hz : Sz P t n) [u : UpdBlk b S l ty C] (hs : SetL l off n v.cells.toList l') (hv : ∀ u ∈ v.cells.toList, Value.cellB u = true) :
 EF P N G S F o fun _ S2 => S2 = C l' := EF.storeU ho hx hy hz hs hv (u.upd l')
end effects
end Slb

/- Base 5: building structs and slices; bytes; keys; maps. -/
namespace Slb
open Go

/-! ### Structs and slices that are built -/
/-- The lengths of pieces; where each begins. -/
def lens (segs : List (List Value)) : List Nat := segs.map List.length
def placesFrom : Nat → List Nat → List (Nat × Nat)
 | _, [] => []
 | n, k :: r => (n, k) :: placesFrom (n + k) r
def setAll (segs : List (List Value)) : List Nat → List Value → List (List Value)
 | i :: is, v :: vs => setAll (segs.set i v.cells.toList) is vs
 | _, _ => segs
def fitsAll (ls : List Nat) : List Nat → List Value → Prop
 | i :: is, v :: vs => ls[i]? = some v.cells.toList.length ∧ fitsAll ls is vs
 | [], [] => True
 | _, _ => False
theorem placesFrom_get {ls : List Nat} {n i k : Nat} (hi : ls[i]? = some k) : (placesFrom n ls)[i]? = some (n + (ls.take i).sum, k) := by
 induction ls generalizing n i with
 | nil => simp at hi
 | cons s r ih =>
   cases i with
   | zero => simp at hi; simp [placesFrom, hi]
   | succ i =>
     simp only [placesFrom, List.getElem?_cons_succ, List.take_succ_cons, List.sum_cons] at hi ⊢
     rw [ih hi]
     simp; omega
theorem foldl_splice (vs : List Value) (off : Nat) (cells : Array Value) (k : Nat) (h : off + k + vs.length ≤ cells.size) :
   (vs.zipIdx k).foldl (fun cs (p : Value × Nat) => cs.setIfInBounds (off + p.2) p.1) cells = (cells.toList.take (off + k) ++ vs ++ cells.toList.drop (off + k + vs.length)).toArray := by
 induction vs generalizing cells k with
 | nil => simp
 | cons v vs ih =>
   simp only [List.zipIdx_cons, List.foldl_cons, List.length_cons] at h ⊢
   rw [ih _ _ (by simp; omega)]
   congr 1
   simp only [Array.toList_setIfInBounds]
   have : off + k < cells.toList.length := by simp; omega
   rw [show off + (k + 1) = off + k + 1 by omega, List.drop_set_of_lt (by omega), List.take_add_one, List.getElem?_set_self this]
   simp only [Option.toList_some, List.take_set_of_le (Nat.le_refl _)]
   rw [show off + k + 1 + vs.length = off + k + (vs.length + 1) by omega]
   simp
theorem split_at {segs : List (List Value)} {i k : Nat} (hi : (lens segs)[i]? = some k) : ∃ A m B, segs = A ++ m :: B ∧ A.length = i ∧ m.length = k ∧ ((lens segs).take i).sum = A.flatten.length := by
 unfold lens at hi ⊢
 rw [List.getElem?_map] at hi
 cases hm : segs[i]? with
 | none => rw [hm] at hi; cases hi
 | some m =>
   rw [hm] at hi
   simp only [Option.map_some, Option.some.injEq] at hi
   obtain ⟨hlt, rfl⟩ := List.getElem?_eq_some_iff.1 hm
   refine ⟨segs.take i, segs[i], segs.drop (i + 1), by simp, by simp; omega, hi, ?_⟩
   rw [← List.map_take, List.length_flatten]
theorem lens_set {A B : List (List Value)} {m s : List Value} (h : s.length = m.length) : lens (A ++ s :: B) = lens (A ++ m :: B) := by simp [lens, h]
theorem fill_segs (place : Nat → Option (Nat × Nat)) : ∀ (is : List Nat) (vs : List Value) (segs : List (List Value)), (∀ i k, (lens segs)[i]? = some k → place i = some (((lens segs).take i).sum, k)) → fitsAll (lens segs) is vs →
   Instr.fill place segs.flatten.toArray (is.zip vs) = some (setAll segs is vs).flatten.toArray
 | [], [], segs, _, _ => by simp [Instr.fill, setAll]
 | [], _ :: _, _, _, h => h.elim
 | _ :: _, [], _, _, h => h.elim
 | i :: is, v :: vs, segs, hp, h => by
   obtain ⟨h1, h3⟩ := h
   have hpi := hp i _ h1
   obtain ⟨A, m, B, rfl, rfl, hm, hs⟩ := split_at h1
   rw [hs] at hpi
   simp only [List.zip_cons_cons, Instr.fill, hpi]
   have hsz : v.cells.size = m.length := by simpa using hm.symm
   have c1 : ¬ (v.cells.size ≠ v.cells.toList.length || A.flatten.length + v.cells.size > (A ++ m :: B).flatten.toArray.size) = true := by
     simp only [List.flatten_append, List.flatten_cons, List.size_toArray, List.length_append, hsz, Array.length_toList, ne_eq, not_true_eq_false, decide_false, Bool.false_or, decide_eq_true_eq]
     omega
   rw [if_neg c1]
   have hz : v.cells.zipIdx.foldl (fun cs (p : Value × Nat) => cs.setIfInBounds (A.flatten.length + p.2) p.1) (A ++ m :: B).flatten.toArray = (A ++ v.cells.toList :: B).flatten.toArray := by
     have hsp := foldl_splice v.cells.toList A.flatten.length (A ++ m :: B).flatten.toArray 0 (by
       simp only [List.flatten_append, List.flatten_cons, List.size_toArray, List.length_append, Array.length_toList, hsz]; omega)
     rw [← Array.foldl_toList, Array.toList_zipIdx, hsp]
     simp only [Nat.add_zero, List.flatten_append, List.flatten_cons]
     rw [List.take_left' rfl, show A.flatten ++ (m ++ B.flatten) = (A.flatten ++ m) ++ B.flatten by simp, List.drop_left' (by simp [hsz])]
     simp
   have hz' : (v.cells.zipIdx.foldl (fun cs x => match x with | (c, j) => cs.setIfInBounds (A.flatten.length + j) c) (A ++ m :: B).flatten.toArray) = (A ++ v.cells.toList :: B).flatten.toArray := hz
   rw [hz']
   have hset : (A ++ m :: B).set A.length v.cells.toList = A ++ v.cells.toList :: B := by simp
   simp only [setAll, hset]
   have hl : lens (A ++ v.cells.toList :: B) = lens (A ++ m :: B) := lens_set (by simpa using hsz)
   exact fill_segs place is vs _ (by rw [hl]; exact hp) (by rw [hl]; exact h3)

/-- A struct type, its zero value in pieces. -/
structure StructTy (P : Program) (t : TypeId) (segs : List (List Value)) : Prop where
 zero : ∀ w, (zeroValue t).run P w = .ok (.agg segs.flatten.toArray) w
 und : ∃ fs, P.underlying t = some (.struct fs) ∧ ∀ w, (fs.mapM fun f => (do pure (f.offset, ← Go.sizeOf f.type) : Sem (Nat × Nat))).run P w = .ok (placesFrom 0 (lens segs)).toArray w
section
variable {P : Program} {N : Nat} {G : Env} {S : List HProp} {F : Fr} {o : Oper}
theorem parts_eval {a : Act} {w : World} (s : St N G S F a w) {parts : Array (Nat × Operand)} {vs : List Value} (hv : opvs G (parts.toList.map (·.2)) = some vs) :
   (parts.map fun (i, x) => (i, a.eval x)).toList = (parts.toList.map (·.1)).zip vs := by
 have := s.evals hv
 subst this
 simp only [Array.toList_map, List.map_map]
 induction parts.toList with
 | nil => rfl
 | cons p l ih => simp only [List.map_cons, List.zip_cons_cons, ih]; rfl
theorem QP.build {t : TypeId} {parts : Array (Nat × Operand)} {segs : List (List Value)} {vs : List Value} {l : List Value} (ho : o.op = .build t parts) (ht : StructTy P t segs) (hv : opvs G (parts.toList.map (·.2)) = some vs)
   (hf : fitsAll (lens segs) (parts.toList.map (·.1)) vs) (hl : (setAll segs (parts.toList.map (·.1)) vs).flatten = l) : QP P N G S F o (.agg l.toArray) := fun a w s w' => by
 obtain ⟨fs, hu, hm⟩ := ht.und
 unfold execOp
 simp only [ho, Instr.build, Sem.run_bind, ht.zero w', Result.andThen_ok, run_underlying hu, hm w']
 have hfill := fill_segs (fun i => (placesFrom 0 (lens segs)).toArray[i]?) (parts.toList.map (·.1)) vs segs (fun i k hi => by
   rw [List.getElem?_toArray, placesFrom_get hi]; simp) hf
 rw [parts_eval s hv]
 simp only [Value.cells]
 rw [hfill, hl]
 simp
/-- A slice that is written out. -/
theorem EF.buildSlice {t e : TypeId} {n z : Nat} {parts : Array (Nat × Operand)} {vs : List Value} {zero : Value} (ho : o.op = .buildSlice t n parts) (hu : P.underlying t = some (.slice e)) (hz : Sz P e z)
   (h0 : Zero P e zero) (hzl : zero.cells.size = z) (hn : n * z ≤ 16777216) (hi : parts.toList.map (·.1) = List.range n) (hv : opvs G (parts.toList.map (·.2)) = some vs) (hvl : vs.length = n) (hf : ∀ v ∈ vs, v.cells.size = z) (hz0 : z ≠ 0) :
   EF P N G S F o fun u S' => ∃ b, u = .slice (some ⟨b, 0, none⟩) n n ∧ S' = blk b (vs.flatMap fun v => v.cells.toList) e :: S := fun a w st => by
 have hpe := parts_eval st hv
 let segs : List (List Value) := List.replicate n zero.cells.toList
 have hseg : ((Array.range (n * z)).map fun i => (if n * z = 0 then #[] else zero.cells)[i % (if n * z = 0 then #[] else zero.cells).size]!) = segs.flatten.toArray := by
   by_cases hnz : n * z = 0
   · have : n = 0 := by rcases Nat.mul_eq_zero.1 hnz with h | h; exact h; exact absurd h hz0
     subst this
     simp [segs]
   · rw [if_neg hnz]
     apply Array.ext'
     apply List.ext_getElem?
     intro i
     simp only [Array.toList_map, Array.toList_range, List.getElem?_map, segs, hzl]
     by_cases hi : i < n * z
     · rw [List.getElem?_range hi]
       have hz1 : 0 < z := Nat.pos_of_ne_zero hz0
       have hmod : i % z < z := Nat.mod_lt _ hz1
       have hfl : ∀ n i, i < n * z → (List.replicate n zero.cells.toList).flatten[i]? = zero.cells.toList[i % z]? := by
         intro n
         induction n with
         | zero => intro i h; simp at h
         | succ n ih =>
           intro i h
           simp only [List.replicate_succ, List.flatten_cons]
           have hl : zero.cells.toList.length = z := by simpa using hzl
           by_cases hiz : i < z
           · rw [List.getElem?_append_left (by omega), Nat.mod_eq_of_lt hiz]
           · have hmz : i % z = (i - z) % z := Nat.mod_eq_sub_mod (show i ≥ z by omega)
             have hlt : i - z < n * z := by rw [Nat.add_one_mul] at h; omega
             have e1 := List.getElem?_append_right (l₁ := zero.cells.toList) (l₂ := (List.replicate n zero.cells.toList).flatten) (i := i) (by omega)
             rw [e1, hl, ih _ hlt, hmz]
       rw [hfl n i hi]
       simp only [Option.map_some]
       have : i % z < zero.cells.size := by omega
       rw [getElem!_pos zero.cells (i % z) this]
       simp [this]
     · rw [List.getElem?_eq_none (by simp; omega), List.getElem?_eq_none (by simp; rw [hzl]; omega)]
       rfl
 have hls : lens segs = List.replicate n z := by simp [lens, segs, hzl]
 have hfits : fitsAll (lens segs) (List.range n) vs := by
   rw [hls]
   have key : ∀ (is : List Nat) (us : List Value), is.length = us.length → (∀ i ∈ is, i < n) → (∀ v ∈ us, v.cells.size = z) → fitsAll (List.replicate n z) is us := by
     intro is
     induction is with
     | nil => intro us h _ _; cases us with | nil => trivial | cons => simp at h
     | cons i is ih =>
       intro us h h1 h2
       cases us with
       | nil => simp at h
       | cons u us =>
         refine ⟨?_, ih us (by simpa using h) (fun j hj => h1 j (List.mem_cons_of_mem _ hj)) (fun v hv => h2 v (List.mem_cons_of_mem _ hv))⟩
         have := h1 i List.mem_cons_self
         simp [this, h2 u List.mem_cons_self]
   exact key _ _ (by simp [hvl]) (fun i hi => List.mem_range.1 hi) hf
 have hplace : ∀ i k, (lens segs)[i]? = some k → (fun i => some (i * z, z)) i = some (((lens segs).take i).sum, k) := by
   intro i k hi
   rw [hls] at hi ⊢
   rw [List.getElem?_replicate] at hi
   split at hi
   · rename_i hlt
     cases hi
     rw [List.take_replicate, Nat.min_eq_left (Nat.le_of_lt hlt)]
     simp
   · cases hi
 have hset : (setAll segs (List.range n) vs).flatten = vs.flatMap fun v => v.cells.toList := by
   have key : ∀ (us : List Value) (k : Nat) (pre rest : List (List Value)), pre.length = k → rest.length = us.length → setAll (pre ++ rest) (List.range' k us.length) us = pre ++ us.map fun v => v.cells.toList := by
     intro us
     induction us with
     | nil => intro k pre rest _ h; cases rest with | nil => simp [setAll] | cons => simp at h
     | cons u us ih =>
       intro k pre rest hk h
       cases rest with
       | nil => simp at h
       | cons r rest =>
         simp only [List.length_cons, List.range'_succ, setAll]
         rw [show (pre ++ r :: rest).set k u.cells.toList = (pre ++ [u.cells.toList]) ++ rest by rw [← hk]; simp]
         rw [ih (k + 1) _ rest (by simp [hk]) (by simpa using h)]
         simp
   have := key vs 0 [] segs rfl (by simp [segs, hvl])
   rw [List.nil_append, hvl, ← List.range_eq_range'] at this
   rw [this]
   simp [List.flatMap]
 have hrun : (Instr.buildSlice t n (parts.map fun (i, x) => (i, a.eval x))).run P w = .ok (.slice (some ⟨w.heap.size, 0, none⟩) n n) { w with heap := w.heap.push (.cells (vs.flatMap fun v => v.cells.toList).toArray e) } := by
   unfold Instr.buildSlice
   simp only [Sem.run_bind, run_underlying hu, Result.andThen_ok, hz w]
   rw [if_neg (by omega)]
   rw [hpe, hi]
   have hfill := fill_segs (fun i => some (i * z, z)) (List.range n) vs segs hplace hfits
   by_cases hnz : n * z = 0
   · rw [if_pos hnz] at hseg ⊢
     simp only [Sem.run_bind, Sem.run_pure, Result.andThen_ok]
     rw [hseg, hfill, hset]
     simp [newRow, newObj, Sem.run]
   · rw [if_neg hnz] at hseg ⊢
     simp only [Sem.run_bind, h0 w, Sem.run_pure, Result.andThen_ok]
     rw [hseg, hfill, hset]
     simp [newRow, newObj, Sem.run]
 refine estep_value (v := .slice (some ⟨w.heap.size, 0, none⟩) n n) (w' := { w with heap := w.heap.push (.cells (vs.flatMap fun v => v.cells.toList).toArray e) }) (by unfold execOp; simp only [ho, Sem.run_bind, hrun, Result.andThen_ok, Sem.run_pure]) ⟨_, ⟨_, rfl, rfl⟩, ?_⟩
 have := st.sat.new (.cells (vs.flatMap fun v => v.cells.toList).toArray e)
 unfold blk; simpa using this
end

/-! ### Bytes -/
def byteV (c : UInt8) : Value := .int .u8 c.toNat
def bytesV (l : List UInt8) : List Value := l.map byteV
theorem bytesV_length (l : List UInt8) : (bytesV l).length = l.length := by simp [bytesV]
theorem bytesV_cell (l : List UInt8) : ∀ v ∈ bytesV l, Value.cellB v = true := by
 intro v hv; obtain ⟨c, _, rfl⟩ := List.mem_map.1 hv; rfl
theorem byteV_inj {a b : UInt8} (h : byteV a = byteV b) : a = b := by
 unfold byteV at h
 simp only [Value.int.injEq, true_and] at h
 exact UInt8.toNat_inj.1 (by omega)
theorem bytesV_inj {a b : List UInt8} (h : bytesV a = bytesV b) : a = b := by
 unfold bytesV at h
 exact List.map_inj_right (fun _ _ => byteV_inj) |>.1 h
/-- n bytes. -/
structure Bs (n : Nat) where
 l : List UInt8
 h : l.length = n
deriving DecidableEq
def Bs.enc {n : Nat} (b : Bs n) : List Value := bytesV b.l
theorem Bs.len {n : Nat} (b : Bs n) : b.enc.length = n := by unfold Bs.enc; rw [bytesV_length, b.h]
theorem Bs.sub {n : Nat} (b : Bs n) : SubL b.enc 0 n b.enc := by have := SubL.all b.enc; rwa [b.len] at this
theorem Bs.cell {n : Nat} (b : Bs n) : ∀ v ∈ b.enc, Value.cellB v = true := bytesV_cell _
theorem Bs.ext {n : Nat} {a b : Bs n} (h : a.l = b.l) : a = b := by cases a; cases b; simp at h; subst h; rfl
theorem Bs.enc_inj {n : Nat} {a b : Bs n} (h : a.enc = b.enc) : a = b := Bs.ext (bytesV_inj h)
/-- An int of 64 bits. -/
abbrev I64 := { n : Int // -9223372036854775808 ≤ n ∧ n ≤ 9223372036854775807 }
def I64.v (x : I64) : Value := .int .i64 x.val
theorem I64.inj {a b : I64} (h : I64.v a = I64.v b) : a = b := by
 unfold I64.v at h
 simp only [Value.int.injEq, true_and] at h
 exact Subtype.ext h
def Bs.zero (n : Nat) : Bs n := ⟨List.replicate n 0, by simp⟩
/-- A slice's head. -/
structure Slc where
 a : Option Addr
 n : Nat
 c : Nat
def Slc.v (s : Slc) : Value := .slice s.a s.n s.c
def Slc.zero : Slc := ⟨none, 0, 0⟩
/-- A function's value. -/
structure FnV where
 f : Option (Fn × Array Value × Array Value)
def FnV.v (x : FnV) : Value := match x.f with | none => .nilFunc | some (f, a, c) => .func f a c
def FnV.zero : FnV := ⟨none⟩
theorem seg_sub {segs : List (List Value)} {i : Nat} {s : List Value} (h : segs[i]? = some s) : SubL segs.flatten ((lens segs).take i).sum s.length s := by
 have : (lens segs)[i]? = some s.length := by unfold lens; rw [List.getElem?_map, h]; rfl
 obtain ⟨A, m, B, rfl, rfl, hm, hs⟩ := split_at this
 rw [hs]
 have : m = s := by simpa using h
 subst this
 exact ⟨A.flatten, B.flatten, by simp, rfl, rfl⟩
theorem seg_set {segs : List (List Value)} {i : Nat} {m s : List Value} (h : segs[i]? = some m) (hl : s.length = m.length) : SetL segs.flatten ((lens segs).take i).sum m.length s (segs.set i s).flatten := by
 have : (lens segs)[i]? = some m.length := by unfold lens; rw [List.getElem?_map, h]; rfl
 obtain ⟨A, m', B, rfl, rfl, hm, hs⟩ := split_at this
 rw [hs]
 have : m' = m := by simpa using h
 subst this
 exact ⟨A.flatten, m', B.flatten, by simp, by simp, rfl, rfl, hl⟩
theorem cell_one {v : Value} (h : Value.cellB v = true) : ∀ u ∈ [v], Value.cellB u = true := fun u hu => by rw [List.mem_singleton.1 hu]; exact h
theorem cells_nil : ∀ l ∈ ([] : List (List Value)), ∀ v ∈ l, Value.cellB v = true := fun _ h => by cases h
theorem cells_cons {a : List Value} {r : List (List Value)} (h : ∀ v ∈ a, Value.cellB v = true) (hr : ∀ l ∈ r, ∀ v ∈ l, Value.cellB v = true) : ∀ l ∈ a :: r, ∀ v ∈ l, Value.cellB v = true := fun l hl => by
 rcases List.mem_cons.1 hl with rfl | hl
 · exact h
 · exact hr l hl
theorem cells_flatten {segs : List (List Value)} (h : ∀ l ∈ segs, ∀ v ∈ l, Value.cellB v = true) : ∀ v ∈ segs.flatten, Value.cellB v = true := fun v hv => by
 obtain ⟨l, hl, hv⟩ := List.mem_flatten.1 hv
 exact h l hl v hv
end Slb

/- Base 6: comparing bytes; == on structs and arrays; keys of maps. -/
namespace Slb
open Go

/-! ### Bytes that are compared -/
theorem run_loadBytes {P : Program} {w : World} {b : Nat} {l : List Value} {ty : TypeId} {fz : Nat × Nat} (h : w.heap[b]? = some (.cells l.toArray ty fz)) :
   ∀ (r : List UInt8) (off : Nat) (acc : ByteArray), (∀ j, j < r.length → l[off + j]? = (bytesV r)[j]?) → (Extern.Bytes.loadBytes ⟨b, off, none⟩ r.length acc).run P w = .ok ⟨acc.data ++ r.toArray⟩ w := by
 intro r
 induction r with
 | nil => intro off acc _; simp [Extern.Bytes.loadBytes]
 | cons c r ih =>
   intro off acc hr
   have h0 := hr 0 (by simp)
   simp only [Nat.add_zero, bytesV, List.map_cons, List.getElem?_cons_zero] at h0
   simp only [List.length_cons, Extern.Bytes.loadBytes, Sem.run_bind]
   have : (load ⟨b, off, none⟩).run P w = .ok (byteV c) w := by
     unfold load
     simp only [Sem.run, cell_at h, h0]
   rw [this]
   simp only [Result.andThen_ok, byteV, add_lit]
   rw [ih (off + 1) _ (fun j hj => by
     have := hr (j + 1) (by simp; omega)
     rw [show off + 1 + j = off + (j + 1) by omega, this]
     simp [bytesV])]
   simp [ByteArray.push]
theorem run_bytesOf {P : Program} {w : World} {b off : Nat} {l : List Value} {ty : TypeId} {fz : Nat × Nat} (h : w.heap[b]? = some (.cells l.toArray ty fz)) {x : List UInt8} {c : Nat} (hs : SubL l off x.length (bytesV x)) :
   (Extern.Bytes.bytesOf (.slice (some ⟨b, off, none⟩) x.length c)).run P w = .ok ⟨x.toArray⟩ w := by
 unfold Extern.Bytes.bytesOf
 rw [run_loadBytes h x off .empty (fun j hj => hs.get hj)]
 simp [ByteArray.empty, ByteArray.emptyWithCapacity]
 rfl
/-- The library's row for bytes that are compared. -/
def CmpRow (P : Program) (f : FuncId) : Prop := ∀ (args : Array Value) (w : World), (callFunc f args).run P w = (do pure (.value (← Extern.BytealgCompare.compare args)) : Sem Next).run P w
section
variable {P : Program} {N : Nat} {G : Env} {S : List HProp} {F : Fr} {o : Oper}
/-- A slice of bytes: in memory, or nil. -/
def BytesAt (S : List HProp) (F : Fr) (v : Value) (x : List UInt8) : Prop :=
 (v = .slice none 0 0 ∧ x = []) ∨ ∃ b off c l, v = .slice (some ⟨b, off, none⟩) x.length c ∧ Rd S F b l ∧ SubL l off x.length (bytesV x)
theorem BytesAt.run {v : Value} {x : List UInt8} (h : BytesAt S F v x) {w : World} (s : Sat S F w) : (Extern.Bytes.bytesOf v).run P w = .ok ⟨x.toArray⟩ w := by
 rcases h with ⟨rfl, rfl⟩ | ⟨b, off, c, l, rfl, hr, hs⟩
 · rfl
 · obtain ⟨ty, fz, hh⟩ := hr.at s
   exact run_bytesOf hh hs
theorem QR.compare {f : FuncId} {ts : Array TypeId} {x y : Operand} {u v : Value} {a b : List UInt8} (ho : o.op = .call ⟨.value (.func f), #[x, y], ts⟩) (hf : CmpRow P f) (hx : opv G x = some u) (hy : opv G y = some v)
   (ha : BytesAt S F u a) (hb : BytesAt S F v b) : QR P N G S F o (.int .i64 (Lib.compareBytes a b)) := fun ac w st => by
 have hmap : #[x, y].map ac.eval = #[u, v] := by simp [st.eval hx, st.eval hy]
 unfold execOp
 simp only [ho, resolve, hmap]
 show (callFunc f (#[] ++ #[u, v] ++ #[])).run P w = _
 rw [hf]
 show (do pure (Next.value (← Extern.BytealgCompare.compare #[u, v])) : Sem Next).run P w = _
 have hc : Extern.BytealgCompare.compare #[u, v] = (do pure (goInt (Extern.BytealgCompare.cmp (← Extern.Bytes.bytesOf u) (← Extern.Bytes.bytesOf v)))) := rfl
 rw [hc]
 simp only [Sem.run_bind, ha.run st.sat, hb.run st.sat, Result.andThen_ok, Sem.run_pure, goInt]
 rw [Lib.cmp_eq]
end

/-! ### == on structs and arrays -/
/-- == of two rows of cells of type t. -/
def EqA (P : Program) (d : Nat) (t : TypeId) (a b : List Value) (r : Bool) : Prop := ∀ w, (Op.equalIn d t (.agg a.toArray) (.agg b.toArray)).run P w = .ok r w
/-- The same of a part: of several cells, of one. -/
def EqP (P : Program) (d : Nat) (t : TypeId) (a b : List Value) (r : Bool) : Prop :=
 (Agg P t a.length ∧ b.length = a.length ∧ EqA P d t a b r) ∨ (∃ u v, a = [u] ∧ b = [v] ∧ Sca P t ∧ ∀ w, (Op.equalIn d t u v).run P w = .ok r w)
theorem run_part {P : Program} {t : TypeId} {k : Nat} (ht : Agg P t k) (w : World) {l s : List Value} {off : Nat} (h : SubL l off k s) : (part t l.toArray off).run P w = .ok (.agg s.toArray) w := by
 unfold part
 simp only [Sem.run_bind, ht.agg w, Result.andThen_ok, if_true, ht.size w, Sem.run_pure]
 obtain ⟨p, q, rfl, rfl, rfl⟩ := h
 congr 2
 simp [List.drop_append, List.take_append]
theorem run_part1 {P : Program} {t : TypeId} (ht : Sca P t) (w : World) {l : List Value} {v : Value} {off : Nat} (h : SubL l off 1 [v]) : (part t l.toArray off).run P w = .ok v w := by
 unfold part
 have h0 := h.get (i := 0) (by omega)
 simp only [Sem.run_bind, ht.agg w, Result.andThen_ok, Bool.false_eq_true, if_false, List.getElem?_toArray]
 rw [show l[off]? = some v by simpa using h0]
 simp
theorem EqP.parts {P : Program} {d : Nat} {t : TypeId} {a b : List Value} {r : Bool} (h : EqP P d t a b r) (w : World) {l m : List Value} {off : Nat} (ha : SubL l off a.length a) (hb : SubL m off b.length b) :
   ∃ u v, (part t l.toArray off).run P w = .ok u w ∧ (part t m.toArray off).run P w = .ok v w ∧ (Op.equalIn d t u v).run P w = .ok r w := by
 rcases h with ⟨h1, h2, h3⟩ | ⟨u, v, rfl, rfl, h1, h2⟩
 · exact ⟨_, _, run_part h1 w ha, run_part h1 w (h2 ▸ hb), h3 w⟩
 · exact ⟨_, _, run_part1 h1 w ha, run_part1 h1 w hb, h2 w⟩
/-- The fields, one behind the other. -/
def FieldsEq (P : Program) (d : Nat) : List Field → List (List Value) → List (List Value) → Nat → Bool → Prop
 | [], [], [], _, r => r = true
 | f :: fs, a :: as, b :: bs, off, r => f.name ≠ "_" ∧ f.offset = off ∧ b.length = a.length ∧ ∃ r1 r2, EqP P d f.type a b r1 ∧ FieldsEq P d fs as bs (off + a.length) r2 ∧ r = (r1 && r2)
 | _, _, _, _, _ => False
theorem run_fieldsEq {P : Program} {d : Nat} (w : World) {xs ys : List Value} : ∀ (fs : List Field) (as bs : List (List Value)) (pa pb : List Value) (r : Bool), xs = pa ++ as.flatten → ys = pb ++ bs.flatten → pb.length = pa.length →
   FieldsEq P d fs as bs pa.length r → (Op.eqFields d xs.toArray ys.toArray fs).run P w = .ok r w := by
 intro fs
 induction fs with
 | nil =>
   intro as bs pa pb r _ _ _ h
   cases as with
   | nil => cases bs with
     | nil => simp only [FieldsEq] at h; subst h; simp [Op.eqFields]
     | cons => exact h.elim
   | cons => exact h.elim
 | cons f fs ih =>
   intro as bs pa pb r hx hy hl h
   cases as with
   | nil => exact h.elim
   | cons a as => cases bs with
     | nil => exact h.elim
     | cons b bs =>
       obtain ⟨h1, h2, h3, r1, r2, h4, h5, rfl⟩ := h
       simp only [List.flatten_cons] at hx hy
       obtain ⟨u, v, e1, e2, e3⟩ := h4.parts w (l := xs) (m := ys) (off := pa.length) ⟨pa, as.flatten, by simp [hx], rfl, rfl⟩ ⟨pb, bs.flatten, by simp [hy], hl, rfl⟩
       simp only [Op.eqFields, if_pos h1, h2, Sem.run_bind, e1, e2, e3, Result.andThen_ok]
       cases r1
       · simp
       · simp only [Bool.not_true, Bool.false_eq_true, if_false, Bool.true_and]
         exact ih as bs (pa ++ a) (pb ++ b) r2 (by simp [hx]) (by simp [hy]) (by simp [hl, h3]) (by simpa using h5)
theorem EqA.struct {P : Program} {d : Nat} {t : TypeId} {fs : Array Field} {sa sb : List (List Value)} {r : Bool} (hu : P.underlying t = some (.struct fs)) (hs : P.stoodInHeld t = false) (h : FieldsEq P d fs.toList sa sb 0 r) :
   EqA P (d + 1) t sa.flatten sb.flatten r := fun w => by
 have hf : P.fieldsOf t = fs := by unfold Program.fieldsOf; rw [hu]
 rw [run_equalIn_struct w d t _ _ (by rw [hf]; exact hu) hs, hf]
 exact run_fieldsEq w fs.toList sa sb [] [] r rfl rfl rfl h
theorem EqA.bytes {P : Program} {d n : Nat} {t e : TypeId} {k : IntKind} (hu : P.underlying t = some (.array n e)) (he : P.underlying e = some (.int k)) (hi : (P.info? e).isSome = true) (hc : P.cellsOf e = 1) (hs : Sca P e) (a b : List UInt8) (ha : a.length = n) (hb : b.length = n) :
   EqA P (d + 2) t (bytesV a) (bytesV b) (decide (a = b)) := fun w => by
 obtain ⟨i, hi⟩ := Option.isSome_iff_exists.1 hi
 rw [run_equalIn_array w (d + 1) _ _ hu hi, hc]
 have key : ∀ (is : List Nat), (∀ j ∈ is, j < n) → (Op.eqItems (d + 1) e 1 (bytesV a).toArray (bytesV b).toArray is).run P w = .ok (is.all fun j => a[j]? == b[j]?) w := by
   intro is
   induction is with
   | nil => intro _; simp [Op.eqItems]
   | cons j is ih =>
     intro h
     have hj := h j List.mem_cons_self
     have hja : a[j]? = some (a[j]'(by omega)) := List.getElem?_eq_getElem _
     have hjb : b[j]? = some (b[j]'(by omega)) := List.getElem?_eq_getElem _
     have e1 : (part e (bytesV a).toArray (j * 1)).run P w = .ok (byteV (a[j]'(by omega))) w := by
       unfold part
       simp [hs.agg w, bytesV, hja]
     have e2 : (part e (bytesV b).toArray (j * 1)).run P w = .ok (byteV (b[j]'(by omega))) w := by
       unfold part
       simp [hs.agg w, bytesV, hjb]
     have e3 : (Op.equalIn (d + 1) e (byteV (a[j]'(by omega))) (byteV (b[j]'(by omega)))).run P w = .ok (a[j]? == b[j]?) w := by
       unfold byteV
       rw [run_equalIn_int w d e .u8 k _ _ he, hja, hjb]
       congr 1
       by_cases hab : a[j]'(by omega) = b[j]'(by omega)
       · simp [hab]
       · have : ((a[j]'(by omega)).toNat : Int) ≠ (b[j]'(by omega)).toNat := fun hh => hab (UInt8.toNat_inj.1 (by omega))
         rw [show (((a[j]'(by omega)).toNat : Int) == (b[j]'(by omega)).toNat) = false from beq_eq_false_iff_ne.2 this]
         simp [hab]
     simp only [Op.eqItems, Sem.run_bind, e1, e2, e3, Result.andThen_ok, List.all_cons]
     cases a[j]? == b[j]?
     · simp
     · simp only [Bool.not_true, Bool.false_eq_true, if_false, Bool.true_and]
       exact ih fun j hj => h j (List.mem_cons_of_mem _ hj)
 rw [key _ fun j hj => List.mem_range.1 hj]
 congr 1
 by_cases hab : a = b
 · subst hab; simp
 · have : ¬ ∀ j, j ∈ List.range n → (a[j]? == b[j]?) = true := fun hh => hab (List.ext_getElem? fun j => by
     by_cases hj : j < n
     · simpa using hh j (List.mem_range.2 hj)
     · rw [List.getElem?_eq_none (by omega), List.getElem?_eq_none (by omega)])
   rw [decide_eq_false hab, Bool.eq_false_iff]
   intro hall
   exact this (List.all_eq_true.1 hall)
theorem EqA.bs {P : Program} {d n : Nat} {t e : TypeId} {k : IntKind} (hu : P.underlying t = some (.array n e)) (he : P.underlying e = some (.int k)) (hi : (P.info? e).isSome = true) (hc : P.cellsOf e = 1) (hs : Sca P e) (x y : Bs n) :
   EqA P (d + 2) t x.enc y.enc (decide (x = y)) := by
 have h := EqA.bytes (d := d) hu he hi hc hs x.l y.l x.h y.h
 have e : decide (x.l = y.l) = decide (x = y) := decide_eq_decide.2 ⟨Bs.ext, fun h => by rw [h]⟩
 rwa [e] at h
theorem EqP.agg {P : Program} {d : Nat} {t : TypeId} {a b : List Value} {r : Bool} {k : Nat} (hg : Agg P t k) (ha : a.length = k) (hb : b.length = k) (h : EqA P d t a b r) : EqP P d t a b r := .inl ⟨ha ▸ hg, by omega, h⟩
theorem EqP.int {P : Program} {d : Nat} {t : TypeId} {k k' : IntKind} (hs : Sca P t) (hu : P.underlying t = some (.int k')) (m n : Int) : EqP P (d + 1) t [.int k m] [.int k n] (decide (m = n)) :=
 .inr ⟨_, _, rfl, rfl, hs, fun w => by rw [run_equalIn_int w d t k k' m n hu]; congr 1⟩
theorem EqP.bool {P : Program} {d : Nat} {t : TypeId} (hs : Sca P t) (hu : P.underlying t = some .bool) (m n : Bool) : EqP P (d + 1) t [.bool m] [.bool n] (decide (m = n)) :=
 .inr ⟨_, _, rfl, rfl, hs, fun w => by rw [run_equalIn_bool' w d t m n hu]; congr 1⟩
theorem EqP.string {P : Program} {d : Nat} {t : TypeId} (hs : Sca P t) (hu : P.underlying t = some .string) (m n : ByteArray) : EqP P (d + 1) t [.string m] [.string n] (decide (m = n)) :=
 .inr ⟨_, _, rfl, rfl, hs, fun w => by
   rw [run_equalIn_string w d t m n hu]
   congr 1
   rw [ByteArray.toList_eq, ByteArray.toList_eq]
   obtain ⟨⟨m⟩⟩ := m
   obtain ⟨⟨n⟩⟩ := n
   by_cases h : m = n <;> simp [h]⟩
/-- == at a type, as a walk meets it. -/
structure EqTy (P : Program) (t : TypeId) (α : Type) [DecidableEq α] (enc : α → List Value) : Prop where
 eq : ∀ x y, EqA P 10000 t (enc x) (enc y) (decide (x = y))
 guard : P.eqGuardType P.depth t = false
section
variable {P : Program} {N : Nat} {G : Env} {S : List HProp} {F : Fr} {o : Oper} {t t' : TypeId} {x y : Operand} {α : Type} [DecidableEq α] {enc : α → List Value}
theorem QP.eql_agg (h : EqTy P t α enc) {a b : α} (ho : o.op = .binOp .eql t x y t') (hx : opv G x = some (.agg (enc a).toArray)) (hy : opv G y = some (.agg (enc b).toArray)) : QP P N G S F o (.bool (decide (a = b))) := fun ac w s w' => by
 unfold execOp
 simp only [ho, s.eval hx, s.eval hy, Sem.run_bind, run_eqGuard_agg w' .eql t x y _ _ h.guard, Result.andThen_ok, run_eql_struct, h.eq a b w', Sem.run_pure]
theorem QP.neq_agg (h : EqTy P t α enc) {a b : α} (ho : o.op = .binOp .neq t x y t') (hx : opv G x = some (.agg (enc a).toArray)) (hy : opv G y = some (.agg (enc b).toArray)) : QP P N G S F o (.bool (decide (a ≠ b))) := fun ac w s w' => by
 unfold execOp
 simp only [ho, s.eval hx, s.eval hy, Sem.run_bind, run_eqGuard_agg w' .neq t x y _ _ h.guard, Result.andThen_ok, run_neq_struct, h.eq a b w', Sem.run_pure]
 by_cases hab : a = b <;> simp [hab]
end

/-! ### Keys -/
def HasLits (P : Program) (d : Nat) (t : TypeId) (l : List Value) : Prop := ∃ ls, P.keyLits d t l = some ls
theorem HasLits.int {P : Program} {d : Nat} {t : TypeId} {k : IntKind} (hu : P.underlying t = some (.int k)) {n : Int} (hw : (Lit.int k n).wf = true) : HasLits P (d + 1) t [.int k n] := ⟨[.int k n], by
 unfold Program.keyLits; rw [hu]; simp only [hw, and_self, if_true]⟩
theorem HasLits.i64 {P : Program} {d : Nat} {t : TypeId} (hu : P.underlying t = some (.int .i64)) (n : I64) : HasLits P (d + 1) t [I64.v n] := HasLits.int hu (by
 have h1 := n.2.1
 have h2 := n.2.2
 simp only [Lit.wf, IntKind.min, IntKind.max, IntKind.signed, IntKind.bits]
 simp
 omega)
theorem mapM_some_of {α β : Type} {f : α → Option β} : ∀ {l : List α}, (∀ x ∈ l, ∃ y, f x = some y) → ∃ ys, l.mapM f = some ys
 | [], _ => ⟨[], rfl⟩
 | x :: l, h => by
   obtain ⟨y, hy⟩ := h x List.mem_cons_self
   obtain ⟨ys, hys⟩ := mapM_some_of (fun z hz => h z (List.mem_cons_of_mem _ hz))
   exact ⟨y :: ys, by rw [List.mapM_cons, hy, hys]; rfl⟩
theorem HasLits.bytes {P : Program} {d n : Nat} {t e : TypeId} (hu : P.underlying t = some (.array n e)) (he : P.underlying e = some (.int .u8)) (hct : P.cellsOf t = n) (hce : P.cellsOf e = 1) (x : Bs n) : HasLits P (d + 2) t x.enc := by
 unfold HasLits
 unfold Program.keyLits
 rw [hu]
 simp only [x.len, hct, if_true]
 obtain ⟨ys, hys⟩ := mapM_some_of (f := fun i => P.keyLits (d + 1) e ((x.enc.drop (i * P.cellsOf e)).take (P.cellsOf e))) (l := List.range n) (fun i hi => by
   rw [hce, Nat.mul_one]
   have hi' := List.mem_range.1 hi
   have hlt : i < x.enc.length := by rw [x.len]; exact hi'
   have hlt2 : i < x.l.length := by rw [x.h]; exact hi'
   have : (x.enc.drop i).take 1 = [byteV x.l[i]] := by
     rw [List.drop_eq_getElem_cons hlt]
     simp [Bs.enc, bytesV]
   rw [this]
   have hb : x.l[i].toNat < 256 := UInt8.toNat_lt _
   exact HasLits.int he (by simp only [Lit.wf, IntKind.min, IntKind.max, IntKind.signed, IntKind.bits]; simp; omega))
 exact ⟨_, by rw [hys]; rfl⟩
def FieldsLits (P : Program) (d : Nat) : List Field → List (List Value) → Nat → Prop
 | [], [], _ => True
 | f :: fs, a :: as, off => f.offset = off ∧ P.cellsOf f.type = a.length ∧ HasLits P d f.type a ∧ FieldsLits P d fs as (off + a.length)
 | _, _, _ => False
theorem HasLits.struct {P : Program} {d : Nat} {t : TypeId} {fs : Array Field} {sa : List (List Value)} (hu : P.underlying t = some (.struct fs)) (hl : sa.flatten.length = P.cellsOf t) (hn : fs.all (·.name != "_") = true) (h : FieldsLits P d fs.toList sa 0) :
   HasLits P (d + 1) t sa.flatten := by
 unfold HasLits
 unfold Program.keyLits
 rw [hu]
 simp only [hl, hn, and_self, if_true]
 have key : ∀ (fl : List Field) (as : List (List Value)) (pa : List Value), FieldsLits P d fl as pa.length → ∃ ys, fl.mapM (fun f => P.keyLits d f.type (((pa ++ as.flatten).drop f.offset).take (P.cellsOf f.type))) = some ys := by
   intro fl
   induction fl with
   | nil => intro as pa _; exact ⟨[], rfl⟩
   | cons f fl ih =>
     intro as pa h
     cases as with
     | nil => exact h.elim
     | cons a as =>
       obtain ⟨h1, h2, ⟨ls, h3⟩, h4⟩ := h
       obtain ⟨ys, hys⟩ := ih as (pa ++ a) (by simpa using h4)
       refine ⟨ls :: ys, ?_⟩
       rw [List.mapM_cons]
       have e : ((pa ++ (a :: as).flatten).drop f.offset).take (P.cellsOf f.type) = a := by
         rw [h1, h2]; simp
       rw [e, h3]
       have e2 : pa ++ (a :: as).flatten = pa ++ a ++ as.flatten := by simp
       rw [e2, hys]; rfl
 obtain ⟨ys, hys⟩ := key fs.toList sa [] h
 simp only [List.nil_append] at hys
 exact ⟨_, by rw [hys]; rfl⟩
/-- A type of keys. -/
structure KeyTy (P : Program) (t : TypeId) (α : Type) (enc : α → Value) : Prop where
 lits : ∀ x, ∃ l, keyOf P t (enc x) = some l
 law : Maps.Keyed P t
 inj : ∀ x y, enc x = enc y → x = y
theorem keyOf_agg {P : Program} {t : TypeId} {l : List Value} (hw : (match P.underlying t with | some (.array _ _) | some (.struct _) => true | _ => false) = true) (hk : P.keyType t = true) (hl : l.length = P.cellsOf t) (h : HasLits P (P.types.size + 1) t l) :
   ∃ x, keyOf P t (.agg l.toArray) = some x := by
 obtain ⟨ls, hls⟩ := h
 unfold keyOf
 have hf : (Value.agg l.toArray).formed P t = true := by
   unfold Value.formed
   split at hw
   · rename_i hu; rw [hu]; simp [hl]
   · rename_i hu; rw [hu]; simp [hl]
   · cases hw
 split at hw
 · rename_i hu; rw [hu]; simp only [hk, hf, Bool.and_self, if_true, Value.cells]; rw [hls]; exact ⟨_, rfl⟩
 · rename_i hu; rw [hu]; simp only [hk, hf, Bool.and_self, if_true, Value.cells]; rw [hls]; exact ⟨_, rfl⟩
 · cases hw
theorem KeyTy.agg {P : Program} {t : TypeId} {α : Type} {enc : α → List Value} {m : Nat} (hw : (match P.underlying t with | some (.array _ _) | some (.struct _) => true | _ => false) = true) (hk : P.keyType t = true) (hm : m + 1 ≤ 10000) (hk2 : P.keyTypeAt m t = true) (ht : P.tiled m t = true)
   (hl : ∀ x, (enc x).length = P.cellsOf t) (h : ∀ x, HasLits P (P.types.size + 1) t (enc x)) (hi : ∀ x y, enc x = enc y → x = y) : KeyTy P t α (fun x => .agg (enc x).toArray) where
 lits x := keyOf_agg hw hk (hl x) (h x)
 law := Maps.Keyed.of_law (deep_law hm hk2 ht hw)
 inj x y e := hi x y (by simpa using e)
end Slb

/- Base 7: maps, ranges over maps, slices that grow. -/
namespace Slb
open Go

/-! ### Maps -/
section lists
variable {K V : Type} [DecidableEq K]
def alook : List (K × V) → K → Option V
 | [], _ => none
 | (a, v) :: r, k => if a = k then some v else alook r k
def aset : List (K × V) → K → V → List (K × V)
 | [], k, v => [(k, v)]
 | (a, u) :: r, k, v => if a = k then (k, v) :: r else (a, u) :: aset r k v
def adel : List (K × V) → K → List (K × V)
 | [], _ => []
 | (a, u) :: r, k => if a = k then r else (a, u) :: adel r k
theorem alook_none {M : List (K × V)} {k : K} : alook M k = none ↔ ∀ p ∈ M, p.1 ≠ k := by
 induction M with
 | nil => simp [alook]
 | cons p r ih =>
   obtain ⟨a, v⟩ := p
   unfold alook
   by_cases h : a = k
   · simp [h]
   · simp [h, ih]
theorem alook_some {M : List (K × V)} {k : K} {v : V} (h : alook M k = some v) : (k, v) ∈ M := by
 induction M with
 | nil => cases h
 | cons p r ih =>
   obtain ⟨a, u⟩ := p
   unfold alook at h
   by_cases hk : a = k
   · rw [if_pos hk] at h; cases h; subst hk; exact List.mem_cons_self
   · rw [if_neg hk] at h; exact List.mem_cons_of_mem _ (ih h)
theorem aset_none {M : List (K × V)} {k : K} {v : V} (h : alook M k = none) : aset M k v = M ++ [(k, v)] := by
 induction M with
 | nil => rfl
 | cons p r ih =>
   obtain ⟨a, u⟩ := p
   unfold alook at h
   by_cases hk : a = k
   · rw [if_pos hk] at h; cases h
   · rw [if_neg hk] at h; unfold aset; rw [if_neg hk, ih h]; rfl
theorem nodup_at {M : List (K × V)} (hn : (M.map (·.1)).Nodup) {j : Nat} {k : K} {v : V} (h : M[j]? = some (k, v)) : alook M k = some v ∧ aset M k = (fun u => M.set j (k, u)) ∧ adel M k = M.eraseIdx j := by
 induction M generalizing j with
 | nil => simp at h
 | cons p r ih =>
   obtain ⟨a, u⟩ := p
   simp only [List.map_cons, List.nodup_cons] at hn
   cases j with
   | zero =>
     simp only [List.getElem?_cons_zero, Option.some.injEq, Prod.mk.injEq] at h
     obtain ⟨rfl, rfl⟩ := h
     refine ⟨by simp [alook], by funext x; simp [aset], by simp [adel]⟩
   | succ j =>
     simp only [List.getElem?_cons_succ] at h
     have hne : a ≠ k := by
       rintro rfl
       exact hn.1 (List.mem_map.2 ⟨(a, v), List.mem_of_getElem? h, rfl⟩)
     obtain ⟨h1, h2, h3⟩ := ih hn.2 h
     refine ⟨by simp [alook, hne, h1], ?_, by simp [adel, hne, h3]⟩
     funext x
     have := congrFun h2 x
     simp [aset, hne, this]
end lists

theorem map_eraseIdx' {α β : Type} (f : α → β) (l : List α) (j : Nat) : (l.eraseIdx j).map f = (l.map f).eraseIdx j := by
 induction l generalizing j with
 | nil => rfl
 | cons x l ih => cases j with
   | zero => rfl
   | succ j => simp [ih]
/-- What a map's block holds. -/
structure MapIs {K V : Type} (ek : K → Value) (ev : V → Value) (es : Array MapEntry) (c : Nat) (M : List (K × V)) : Prop where
 ents : es.toList.map (fun e => (e.key, e.val)) = M.map fun p => (ek p.1, ev p.2)
 nodup : (M.map (·.1)).Nodup
 born : es.toList.Pairwise fun a b => a.born < b.born
 clock : ∀ e ∈ es.toList, e.born < c
def mapT {K V : Type} (ek : K → Value) (ev : V → Value) (r : Nat) (M : List (K × V)) : HProp := fun h => ∃ es c, h = PH.single r (.map es c) ∧ MapIs ek ev es c M
class HasMap (r : Nat) (S : List HProp) (K V : outParam Type) (ek : outParam (K → Value)) (ev : outParam (V → Value)) (M : outParam (List (K × V))) : Prop where
 mem : mapT ek ev r M ∈ S
instance HasMap.head {r : Nat} {S : List HProp} {K V : Type} {ek : K → Value} {ev : V → Value} {M : List (K × V)} : HasMap r (mapT ek ev r M :: S) K V ek ev M := ⟨List.mem_cons_self⟩
instance (priority := low) HasMap.tail {r : Nat} {A : HProp} {S : List HProp} {K V : Type} {ek : K → Value} {ev : V → Value} {M : List (K × V)} [h : HasMap r S K V ek ev M] : HasMap r (A :: S) K V ek ev M := ⟨List.mem_cons_of_mem _ h.mem⟩
class UpdMap (r : Nat) (S : List HProp) (K V : outParam Type) (ek : outParam (K → Value)) (ev : outParam (V → Value)) (M : outParam (List (K × V))) (C : outParam (List (K × V) → List HProp)) : Prop where
 upd : ∀ M', Upd S (mapT ek ev r M) (mapT ek ev r M') (C M')
instance UpdMap.head {r : Nat} {S : List HProp} {K V : Type} {ek : K → Value} {ev : V → Value} {M : List (K × V)} : UpdMap r (mapT ek ev r M :: S) K V ek ev M (fun M' => mapT ek ev r M' :: S) := ⟨fun _ => .head⟩
instance (priority := low) UpdMap.tail {r : Nat} {A : HProp} {S : List HProp} {K V : Type} {ek : K → Value} {ev : V → Value} {M : List (K × V)} {C : List (K × V) → List HProp} [h : UpdMap r S K V ek ev M C] : UpdMap r (A :: S) K V ek ev M (fun M' => A :: C M') := ⟨fun M' => .tail (h.upd M')⟩

theorem Sat.memX {S : List HProp} {F : Fr} {w : World} {A : HProp} (s : Sat S F w) (h : A ∈ S) : ∃ p, A p ∧ PH.le p (hp w) := by
 obtain ⟨r, hr⟩ := mem_perm h
 obtain ⟨_, _, _, _, k, ⟨h1, h2, _, rfl, a, _⟩, _, g⟩ := s.perm hr
 exact ⟨h1, a, PH.le_union_left.trans g⟩
section
variable {P : Program} {N : Nat} {G : Env} {S : List HProp} {F : Fr} {o : Oper} {t kt et : TypeId} {x y : Operand} {r : Nat} {K V : Type} [DecidableEq K] {ek : K → Value} {ev : V → Value} {M : List (K × V)}
omit [DecidableEq K] in
theorem Sat.map {w : World} (s : Sat S F w) (h : mapT ek ev r M ∈ S) : ∃ es c, w.heap[r]? = some (.map es c) ∧ MapIs ek ev es c M := by
 obtain ⟨p, ⟨es, c, rfl, hm⟩, hle⟩ := s.memX h
 exact ⟨es, c, hle r _ (single_self _ _), hm⟩
omit [DecidableEq K] in
theorem MapIs.get {es : Array MapEntry} {c : Nat} (h : MapIs ek ev es c M) {j : Nat} {e : MapEntry} (he : es.toList[j]? = some e) : ∃ p, M[j]? = some p ∧ e.key = ek p.1 ∧ e.val = ev p.2 := by
 have := congrArg (·[j]?) h.ents
 simp only [List.getElem?_map, he, Option.map_some] at this
 cases hM : M[j]? with
 | none => rw [hM] at this; cases this
 | some p =>
   rw [hM] at this
   simp only [Option.map_some, Option.some.injEq, Prod.mk.injEq] at this
   exact ⟨p, rfl, this.1, this.2⟩
omit [DecidableEq K] in
theorem MapIs.size {es : Array MapEntry} {c : Nat} (h : MapIs ek ev es c M) : es.size = M.length := by
 have := congrArg List.length h.ents
 simpa using this
/-- Looking for a key. -/
theorem run_find (hk : KeyTy P kt K ek) {es : Array MapEntry} {c : Nat} (h : MapIs ek ev es c M) (k : K) (w : World) :
   (alook M k = none ∧ (Instr.findKey kt (ek k) es.toList).run P w = .ok none w) ∨
   ∃ j v e, (Instr.findKey kt (ek k) es.toList).run P w = .ok (some (j, ev v)) w ∧ M[j]? = some (k, v) ∧ es.toList[j]? = some e ∧ e.key = ek k ∧ alook M k = some v := by
 obtain ⟨lx, hlx⟩ := hk.lits k
 have hall : ∀ e ∈ es.toList, ∃ l, keyOf P kt e.key = some l := fun e he => by
   obtain ⟨j, hj⟩ := List.getElem?_of_mem he
   obtain ⟨p, _, hp, _⟩ := h.get hj
   rw [hp]; exact hk.lits p.1
 rcases hk.law.find w hlx es.toList hall with ⟨h1, h2⟩ | ⟨j, e, h1, h2, h3⟩
 · left
   refine ⟨alook_none.2 fun p hp hpk => ?_, h1⟩
   obtain ⟨j, hj⟩ := List.getElem?_of_mem hp
   have hlt : j < es.toList.length := by
     have := (List.getElem?_eq_some_iff.1 hj).1
     have := h.size
     simp; omega
   obtain ⟨p', hp', hkey, _⟩ := h.get (List.getElem?_eq_getElem hlt)
   rw [hj] at hp'; cases hp'
   exact h2 _ (List.getElem_mem hlt) (by rw [hkey, hpk])
 · right
   obtain ⟨p, hp, hkey, hval⟩ := h.get h2
   have : p.1 = k := hk.inj _ _ (by rw [← hkey, h3])
   obtain ⟨a, v⟩ := p
   simp only at this hval hkey
   subst this
   exact ⟨j, v, e, by rw [h1, hval], hp, h2, h3, (nodup_at h.nodup hp).1⟩
theorem run_lookup (hk : KeyTy P kt K ek) (hu : P.underlying t = some (.map kt et)) {zv : Value} (hz : Zero P et zv) {w : World} (s : Sat S F w) (hm : mapT ek ev r M ∈ S) (k : K) (ok : Bool) :
   (Instr.lookup t (.map (some r)) (ek k) ok).run P w = .ok (if ok then .tuple #[((alook M k).map ev).getD zv, .bool (alook M k).isSome] else ((alook M k).map ev).getD zv) w := by
 obtain ⟨es, c, hh, h⟩ := s.map hm
 obtain ⟨lx, hlx⟩ := hk.lits k
 have hg : (getObj r).run P w = .ok (.map es c) w := by unfold getObj; simp [Sem.run, hh]
 unfold Instr.lookup
 simp only [Sem.run_bind, run_underlying hu, Result.andThen_ok, hg, Sem.run_pure, hk.law.check w es.isEmpty hlx]
 rcases run_find hk h k w with ⟨h1, h2⟩ | ⟨j, v, e, h2, _, _, _, h1⟩
 · simp only [h2, Result.andThen_ok, Sem.run_bind, hz w, Sem.run_pure, h1]
   cases ok <;> simp
 · simp only [h2, Result.andThen_ok, Sem.run_pure, h1]
   cases ok <;> simp
theorem QR.lookup (hk : KeyTy P kt K ek) (ho : o.op = .lookup t x y false) (hx : opv G x = some (.map (some r))) [hm : HasMap r S K V ek ev M] {k : K} (hy : opv G y = some (ek k)) (hu : P.underlying t = some (.map kt et)) {zv : Value} (hz : Zero P et zv) :
   QR P N G S F o (((alook M k).map ev).getD zv) := fun a w st => by
 unfold execOp
 simp only [ho, st.eval hx, st.eval hy, Sem.run_bind, run_lookup hk hu hz st.sat hm.mem k false, Result.andThen_ok, Sem.run_pure]
 simp
theorem QR.lookup2 (hk : KeyTy P kt K ek) (ho : o.op = .lookup t x y true) (hx : opv G x = some (.map (some r))) [hm : HasMap r S K V ek ev M] {k : K} (hy : opv G y = some (ek k)) (hu : P.underlying t = some (.map kt et)) {zv : Value} (hz : Zero P et zv) :
   QR P N G S F o (.tuple #[((alook M k).map ev).getD zv, .bool (alook M k).isSome]) := fun a w st => by
 unfold execOp
 simp only [ho, st.eval hx, st.eval hy, Sem.run_bind, run_lookup hk hu hz st.sat hm.mem k true, Result.andThen_ok, Sem.run_pure]
 simp
theorem run_setObj {w : World} {b : Nat} {o1 o2 : Obj} (h : w.heap[b]? = some o1) (hn : ∀ c e f, o1 ≠ .cells c e f) : (setObj b o2).run P w = .ok () { w with heap := w.heap.setIfInBounds b o2 } := by
 unfold setObj
 cases o1 <;> simp_all [Sem.run]
omit [DecidableEq K] in
theorem Sat.setObj {b : Nat} {o o' : Obj} {S : List HProp} {w : World} (s : Sat (pts b o :: S) F w) : Sat (pts b o' :: S) F { w with heap := w.heap.setIfInBounds b o' } := by
 have hlt := (Array.getElem?_eq_some_iff.1 s.at).1
 exact s.set o' rfl rfl ⟨rfl, Nat.le_refl _⟩ (by simp [hlt]) fun c hc => by simp [Array.getElem?_setIfInBounds_ne (Ne.symm hc)]
omit [DecidableEq K] in
theorem Sat.mapOpen {w : World} (s : Sat (mapT ek ev r M :: S) F w) : ∃ es c, Sat (pts r (.map es c) :: S) F w ∧ MapIs ek ev es c M := by
 obtain ⟨a, b, c, d, k, ⟨h1, h2, e1, e2, ⟨es, cl, hh, hm⟩, e4⟩, f, g⟩ := s
 exact ⟨es, cl, ⟨a, b, c, d, k, ⟨h1, h2, e1, e2, hh, e4⟩, f, g⟩, hm⟩
omit [DecidableEq K] in
theorem Sat.mapClose {w : World} {es : Array MapEntry} {c : Nat} (h : MapIs ek ev es c M) (s : Sat (pts r (.map es c) :: S) F w) : Sat (mapT ek ev r M :: S) F w :=
 s.head fun _ hh => ⟨es, c, hh, h⟩
omit [DecidableEq K] in
theorem Sat.mapSet {w : World} {es es' : Array MapEntry} {c c' : Nat} {M' : List (K × V)} (s : Sat (pts r (.map es c) :: S) F w) (h : MapIs ek ev es' c' M') : Sat (mapT ek ev r M' :: S) F { w with heap := w.heap.setIfInBounds r (.map es' c') } :=
 (Sat.setObj s).mapClose h
theorem EF.mapUpdate (hk : KeyTy P kt K ek) {z : Operand} {k : K} {v : V} {C : List (K × V) → List HProp} (ho : o.op = .mapUpdate t x y z) (hx : opv G x = some (.map (some r))) [u : UpdMap r S K V ek ev M C] (hy : opv G y = some (ek k)) (hz : opv G z = some (ev v)) (hu : P.underlying t = some (.map kt et)) :
   EF P N G S F o fun _ S2 => S2 = C (aset M k v) := fun a w st => by
 obtain ⟨rr, s1, back⟩ := Sat.upd (u.upd (aset M k v)) st.sat
 obtain ⟨es, c, s2, h⟩ := s1.mapOpen
 obtain ⟨lx, hlx⟩ := hk.lits k
 have hh := s2.at
 have hg : (getObj r).run P w = .ok (.map es c) w := by unfold getObj; simp [Sem.run, hh]
 rcases run_find hk h k w with ⟨h1, h2⟩ | ⟨j, v', e, h2, hMj, hej, hekey, h1⟩
 · have h' : MapIs ek ev (es.push ⟨ek k, ev v, c⟩) (c + 1) (aset M k v) := by
     rw [aset_none h1]
     refine ⟨by simp [h.ents], ?_, ?_, ?_⟩
     · rw [List.map_append, List.nodup_append]
       refine ⟨h.nodup, by simp, fun a ha b hb => ?_⟩
       obtain ⟨p, hp, rfl⟩ := List.mem_map.1 ha
       simp only [List.map_cons, List.map_nil, List.mem_singleton] at hb
       subst hb
       exact alook_none.1 h1 p hp
     · rw [Array.toList_push, List.pairwise_append]
       exact ⟨h.born, by simp, fun a ha b hb => by rw [List.mem_singleton.1 hb]; exact h.clock a ha⟩
     · intro e he
       rw [Array.toList_push, List.mem_append] at he
       rcases he with he | he
       · exact Nat.lt_succ_of_lt (h.clock e he)
       · rw [List.mem_singleton.1 he]; exact Nat.lt_succ_self _
   refine estep_skip (w' := { w with heap := w.heap.setIfInBounds r (.map (es.push ⟨ek k, ev v, c⟩) (c + 1)) }) ?_ ⟨_, rfl, back _ (s2.mapSet h')⟩
   unfold execOp
   simp only [ho, st.eval hx, st.eval hy, st.eval hz, Instr.mapUpdate, Sem.run_bind, run_underlying hu, Result.andThen_ok, hg, hk.law.check w false hlx, h2, run_setObj hh (by simp), Sem.run_pure]
 · obtain ⟨_, hset, _⟩ := nodup_at h.nodup hMj
   have hlt : j < es.size := by simpa using (List.getElem?_eq_some_iff.1 hej).1
   have h' : MapIs ek ev (es.modify j fun e => { e with key := ek k, val := ev v }) c (aset M k v) := by
     have hset' := congrFun hset v
     have hMlt := (List.getElem?_eq_some_iff.1 hMj).1
     have hborn : (es.modify j fun e => { e with key := ek k, val := ev v }).toList.map (·.born) = es.toList.map (·.born) := by
       apply List.ext_getElem?
       intro i
       simp only [List.getElem?_map, Array.toList_modify, List.getElem?_modify]
       by_cases hij : j = i
       · subst hij; cases es.toList[j]? <;> simp
       · simp [hij]
     refine ⟨?_, ?_, ?_, ?_⟩
     · rw [hset']
       apply List.ext_getElem?
       intro i
       simp only [List.getElem?_map, Array.toList_modify, List.getElem?_modify, List.getElem?_set]
       by_cases hij : j = i
       · subst hij
         have : es.toList[j]? = some e := hej
         simp [this, hMlt]
       · simp only [hij, if_false]
         have := congrArg (·[i]?) h.ents
         simp only [List.getElem?_map] at this
         simpa using this
     · rw [hset']
       have : (M.set j (k, v)).map (·.1) = M.map (·.1) := by
         apply List.ext_getElem?
         intro i
         simp only [List.getElem?_map, List.getElem?_set]
         by_cases hij : j = i
         · subst hij; simp [hMlt]; rw [(List.getElem?_eq_some_iff.1 hMj).2]
         · simp [hij]
       rw [this]; exact h.nodup
     · have := (List.pairwise_map (f := fun e : MapEntry => e.born) (R := (· < ·)) (l := es.toList)).2 h.born
       rw [← hborn] at this
       exact List.pairwise_map.1 this
     · intro e' he'
       have : e'.born ∈ es.toList.map (·.born) := by rw [← hborn]; exact List.mem_map.2 ⟨e', he', rfl⟩
       obtain ⟨e0, he0, hb⟩ := List.mem_map.1 this
       rw [← hb]; exact h.clock e0 he0
   have hstay : (Instr.keyThatStays (((es[j]?).map (·.key)).getD (ek k)) (ek k)).run P w = .ok (ek k) w := by
     have : es[j]? = some e := by rw [← Array.getElem?_toList]; exact hej
     rw [this]
     simp only [Option.map_some, Option.getD_some, hekey]
     exact hk.law.stays w hlx
   refine estep_skip (w' := { w with heap := w.heap.setIfInBounds r (.map (es.modify j fun e => { e with key := ek k, val := ev v }) c) }) ?_ ⟨_, rfl, back _ (s2.mapSet h')⟩
   unfold execOp
   simp only [ho, st.eval hx, st.eval hy, st.eval hz, Instr.mapUpdate, Sem.run_bind, run_underlying hu, Result.andThen_ok, hg, hk.law.check w false hlx, h2, hstay, run_setObj hh (by simp), Sem.run_pure]
omit [DecidableEq K] in
theorem EF.makeMap (ek : K → Value) (ev : V → Value) (ho : o.op = .makeMap t none) : EF P N G S F o fun u S' => ∃ r, u = .map (some r) ∧ S' = mapT ek ev r [] :: S := fun a w st => by
 refine estep_value (v := .map (some w.heap.size)) (w' := { w with heap := w.heap.push (.map #[] 0) }) ?_ ⟨_, ⟨_, rfl, rfl⟩, (st.sat.new (.map #[] 0)).mapClose ⟨rfl, by simp, by simp, by simp⟩⟩
 unfold execOp; simp [ho, Instr.makeMap, newObj, Sem.run]
end

/-! ### A range over a map -/
/-- A map that is ranged over: which entries are still to come, which one has come. -/
def rangeT {K V : Type} (ek : K → Value) (ev : V → Value) (r it : Nat) (M todo : List (K × V)) (cur : Option (K × V)) : HProp := fun h =>
 ∃ es c seen, h = PH.union (PH.single r (.map es c)) (PH.single it (.mapIter (some r) c seen c)) ∧ r ≠ it ∧ MapIs ek ev es c M ∧
   (es.toList.filter fun e => !seen.contains e.born).map (fun e => (e.key, e.val)) = todo.map (fun p => (ek p.1, ev p.2)) ∧
   ∀ p, cur = some p → ∃ e ∈ es.toList, seen.back? = some e.born ∧ e.key = ek p.1 ∧ e.val = ev p.2
class HasRange (it : Nat) (S : List HProp) (K V : outParam Type) (ek : outParam (K → Value)) (ev : outParam (V → Value)) (r : outParam Nat) (M todo : outParam (List (K × V))) (cur : outParam (Option (K × V))) : Prop where
 mem : rangeT ek ev r it M todo cur ∈ S
instance HasRange.head {it : Nat} {S : List HProp} {K V : Type} {ek : K → Value} {ev : V → Value} {r : Nat} {M todo : List (K × V)} {cur : Option (K × V)} : HasRange it (rangeT ek ev r it M todo cur :: S) K V ek ev r M todo cur := ⟨List.mem_cons_self⟩
instance (priority := low) HasRange.tail {it : Nat} {A : HProp} {S : List HProp} {K V : Type} {ek : K → Value} {ev : V → Value} {r : Nat} {M todo : List (K × V)} {cur : Option (K × V)} [h : HasRange it S K V ek ev r M todo cur] : HasRange it (A :: S) K V ek ev r M todo cur := ⟨List.mem_cons_of_mem _ h.mem⟩
end Slb

/- Base 8: a range over a map, step by step; slices that grow. -/
namespace Slb
open Go

section range
variable {P : Program} {N : Nat} {G : Env} {S S1 : List HProp} {F : Fr} {o : Oper} {t kt et : TypeId} {x : Operand} {r it : Nat} {K V : Type} {ek : K → Value} {ev : V → Value} {M todo : List (K × V)} {cur : Option (K × V)}
theorem EF.range (ho : o.op = .range t x) (hx : opv G x = some (.map (some r))) (hu : P.underlying t = some (.map kt et)) (pk : Pick S (mapT ek ev r M) S1) :
   EF P N G S F o fun u S' => ∃ it, u = .pointer (some ⟨it, 0, none⟩) ∧ S' = rangeT ek ev r it M M none :: S1 := fun a w st => by
 obtain ⟨es, c, s2, h⟩ := (st.sat.perm pk.perm).mapOpen
 have hh := s2.at
 have hg : (getObj r).run P w = .ok (.map es c) w := by unfold getObj; simp [Sem.run, hh]
 have s3 := s2.new (.mapIter (some r) c #[] c)
 have hne : r ≠ w.heap.size := by have := (Array.getElem?_eq_some_iff.1 hh).1; omega
 refine estep_value (v := .pointer (some ⟨w.heap.size, 0, none⟩)) (w' := { w with heap := w.heap.push (.mapIter (some r) c #[] c) }) ?_ ⟨_, ⟨_, rfl, rfl⟩, ?_⟩
 · unfold execOp
   simp only [ho, st.eval hx, Instr.range, Sem.run_bind, run_underlying hu, Result.andThen_ok, hg, Sem.run_pure]
   simp [newObj, Sem.run]
 · have s4 := (s3.perm (List.Perm.swap _ _ _)).join
   exact s4.head fun k ⟨h1, h2, d, e, a1, a2⟩ => ⟨es, c, #[], by rw [e, show h1 = _ from a1, show h2 = _ from a2], hne, h, by
     rw [List.filter_eq_self.2 (fun e _ => by simp)]; exact h.ents, fun p hp => by cases hp⟩
theorem Sat.rangeOpen {w : World} (s : Sat (rangeT ek ev r it M todo cur :: S) F w) : ∃ es c seen, Sat (pts r (.map es c) :: pts it (.mapIter (some r) c seen c) :: S) F w ∧ r ≠ it ∧ MapIs ek ev es c M ∧
   (es.toList.filter fun e => !seen.contains e.born).map (fun e => (e.key, e.val)) = todo.map (fun p => (ek p.1, ev p.2)) ∧
   ∀ p, cur = some p → ∃ e ∈ es.toList, seen.back? = some e.born ∧ e.key = ek p.1 ∧ e.val = ev p.2 := by
 obtain ⟨a, b, c, d, k, ⟨h1, h2, e1, e2, ⟨es, cl, seen, hh, hne, hm, ht, hc⟩, e4⟩, f, g⟩ := s
 refine ⟨es, cl, seen, Sat.split ⟨a, b, c, d, k, ⟨h1, h2, e1, e2, ⟨_, _, ?_, hh, rfl, rfl⟩, e4⟩, f, g⟩, hne, hm, ht, hc⟩
 intro y
 by_cases hy : y = r
 · right; simp [PH.single]; omega
 · left; simp [PH.single, hy]
theorem J.rangeEnd {Φ : Act → World → Prop} (pk : Pick S (rangeT ek ev r it M todo cur) S1) (j : J N G (mapT ek ev r M :: S1) F Φ) : J N G S F Φ := j.conseq fun w s => by
 obtain ⟨es, c, seen, s2, _, hm, _⟩ := (s.perm pk.perm).rangeOpen
 exact ((s2.perm (List.Perm.swap _ _ _)).drop).mapClose hm
theorem QR.entry (ho : o.op = .entry x) (hx : opv G x = some (.pointer (some ⟨it, 0, none⟩))) {p : K × V} [hr : HasRange it S K V ek ev r M todo (some p)] : QR P N G S F o (.tuple #[ek p.1, ev p.2]) := fun a w st => by
 obtain ⟨rr, hp⟩ := mem_perm hr.mem
 obtain ⟨es, c, seen, s2, _, hm, _, hc⟩ := (st.sat.perm hp).rangeOpen
 obtain ⟨e, he, hb, hk, hv⟩ := hc p rfl
 have h1 : (getObj r).run P w = .ok (.map es c) w := by unfold getObj; simp [Sem.run, s2.at]
 have h2 : (getObj it).run P w = .ok (.mapIter (some r) c seen c) w := by unfold getObj; simp [Sem.run, (s2.perm (List.Perm.swap _ _ _)).at]
 have hf : es.find? (fun x => x.born == e.born) = some e := by
   rw [← Array.find?_toList]
   have hnd := hm.born
   clear hc hb hk hv h1 h2 s2
   generalize es.toList = l at he hnd
   induction l with
   | nil => cases he
   | cons y l ih =>
     rw [List.pairwise_cons] at hnd
     rcases List.mem_cons.1 he with rfl | he
     · simp
     · have : y.born ≠ e.born := Nat.ne_of_lt (hnd.1 e he)
       simp only [List.find?_cons, beq_eq_false_iff_ne.2 this]
       exact ih he hnd.2
 unfold execOp
 simp only [ho, st.eval hx, Instr.entry, Sem.run_bind, h2, Result.andThen_ok, Sem.run_pure, hb, h1]
 simp [hf, hk, hv]
theorem EF.next (ho : o.op = .next x false) (hx : opv G x = some (.pointer (some ⟨it, 0, none⟩))) (pk : Pick S (rangeT ek ev r it M todo cur) S1) :
   EF P N G S F o fun u S' => (todo = [] ∧ u = .tuple #[.bool false] ∧ S' = rangeT ek ev r it M todo cur :: S1) ∨
     ∃ i p, todo[i]? = some p ∧ u = .tuple #[.bool true, ek p.1, ev p.2] ∧ S' = rangeT ek ev r it M (todo.eraseIdx i) (some p) :: S1 := fun a w st => by
 have s0 := st.sat.perm pk.perm
 obtain ⟨es, c, seen, s2, hne, hm, ht, hc⟩ := s0.rangeOpen
 have h1 : (getObj r).run P w = .ok (.map es c) w := by unfold getObj; simp [Sem.run, s2.at]
 have hit : w.heap[it]? = some (.mapIter (some r) c seen c) := (s2.perm (List.Perm.swap _ _ _)).at
 have h2 : (getObj it).run P w = .ok (.mapIter (some r) c seen c) w := by unfold getObj; simp [Sem.run, hit]
 have hall : (!seen.isEmpty && !es.isEmpty && es.all (·.born ≥ c)) = false := by
   by_cases he : es.isEmpty = true
   · simp [he]
   · have : es.all (·.born ≥ c) = false := by
       rw [Bool.eq_false_iff]
       intro hcon
       rw [← Array.all_toList, List.all_eq_true] at hcon
       have hne' : es ≠ #[] := fun h => he (by simp [h])
       have hpos : 0 < es.toList.length := by simpa [Array.size_pos_iff] using hne'
       have hmem := List.getElem_mem hpos
       have a1 := hcon _ hmem
       have a2 := hm.clock _ hmem
       have a3 : c ≤ es.toList[0].born := of_decide_eq_true a1
       omega
     simp [this]
 have hold : (es.filter fun e => !seen.contains e.born).filter (·.born < c) = es.filter fun e => !seen.contains e.born := by
   rw [Array.filter_eq_self]
   intro e he
   rw [Array.mem_filter] at he
   simpa using hm.clock e (Array.mem_toList_iff.2 he.1)
 have hnew : (es.filter fun e => !seen.contains e.born).filter (·.born ≥ c) = #[] := by
   rw [Array.filter_eq_empty_iff]
   intro e he
   rw [Array.mem_filter] at he
   have := hm.clock e (Array.mem_toList_iff.2 he.1)
   simpa using this
 generalize hleft : es.filter (fun e => !seen.contains e.born) = left at hold hnew
 have htl : left.toList.map (fun e => (e.key, e.val)) = todo.map fun p => (ek p.1, ev p.2) := by rw [← ht, ← hleft]; simp
 have hlen : left.size = todo.length := by simpa using congrArg List.length htl
 have hrun : (execOp a.eval o).run P w = ((Instr.next (.pointer (some ⟨it, 0, none⟩)) false o.type).run P w).andThen fun v w' => .ok (.value v) w' := by
   unfold execOp
   simp only [ho, st.eval hx, Sem.run_bind]
   rfl
 by_cases h0 : todo = []
 · subst h0
   have hl0 : left = #[] := by simpa using hlen
   have key : ∃ n, w.drawn ≤ n ∧ (Instr.next (.pointer (some ⟨it, 0, none⟩)) false o.type).run P w = .ok (.tuple #[.bool false]) { w with drawn := n } := by
     unfold Instr.next
     simp only [Sem.run_bind, h2, Result.andThen_ok, h1, hall, hleft, hold, hnew, hl0]
     simp [choose, Sem.run, Question.forced]
     exact ⟨w.drawn, Nat.le_refl _, rfl⟩
   obtain ⟨n, hdn, hn⟩ := key
   refine estep_value (v := .tuple #[.bool false]) (w' := { w with drawn := n }) (by rw [hrun, hn]; rfl) ⟨_, .inl ⟨rfl, rfl, rfl⟩, s0.drew hdn⟩
 · have hpos : 0 < todo.length := List.length_pos_iff.2 h0
   have key : ∃ (n i : Nat) (e : MapEntry), w.drawn ≤ n ∧ left[i]? = some e ∧ (Instr.next (.pointer (some ⟨it, 0, none⟩)) false o.type).run P w = .ok (.tuple #[.bool true, e.key, e.val]) { w with drawn := n, heap := w.heap.setIfInBounds it (.mapIter (some r) c (seen.push e.born) c) } := by
     have hne0 : left.isEmpty = false := by rw [Array.isEmpty_eq_false_iff]; intro h; rw [h] at hlen; simp at hlen; omega
     unfold Instr.next
     simp only [Sem.run_bind, h2, Result.andThen_ok, h1, hall, hleft, hold, hnew, hne0, Bool.false_eq_true, if_false, Array.append_empty, Array.empty_append, Array.size_map]
     have hch : ∃ i w1, i < left.size ∧ w.drawn ≤ w1.drawn ∧ w1.heap = w.heap ∧ w1.os = w.os ∧ w1.tape = w.tape ∧ w1.output = w.output ∧ (choose (.mapNext left.size)).run P w = .ok i w1 := by
       unfold choose
       simp only [Sem.run]
       split
       · exact ⟨0, w, by omega, Nat.le_refl _, rfl, rfl, rfl, rfl, rfl⟩
       · exact ⟨(Question.mapNext left.size).cut (w.tape w.drawn (Question.mapNext left.size)), { w with drawn := w.drawn + 1 }, Nat.mod_lt _ (by omega), Nat.le_succ _, rfl, rfl, rfl, rfl, rfl⟩
     obtain ⟨i, w1, hi, hd1, e1, e2, e3, e4, hrc⟩ := hch
     have hw1 : w1 = { w with drawn := w1.drawn } := by cases w1; cases w; simp_all
     rw [hrc]
     have hget : (left.map some)[i]? = some (some left[i]) := by simp [hi]
     simp only [Result.andThen_ok, hget]
     have hset : (setObj it (.mapIter (some r) c (seen.push left[i].born) c)).run P w1 = .ok () { w1 with heap := w1.heap.setIfInBounds it (.mapIter (some r) c (seen.push left[i].born) c) } := run_setObj (by rw [e1]; exact hit) (by simp)
     refine ⟨w1.drawn, i, left[i], hd1, Array.getElem?_eq_getElem hi, ?_⟩
     simp only [Sem.run_bind, hset, Result.andThen_ok, Sem.run_pure]
     rw [hw1]
   obtain ⟨n, i, e, hdn, he, hn⟩ := key
   have htl' := congrArg (·[i]?) htl
   simp only [List.getElem?_map, Array.getElem?_toList, he, Option.map_some] at htl'
   cases hti : todo[i]? with
   | none => rw [hti] at htl'; cases htl'
   | some p =>
     rw [hti] at htl'
     simp only [Option.map_some, Option.some.injEq, Prod.mk.injEq] at htl'
     obtain ⟨hk, hv⟩ := htl'
     refine estep_value (v := .tuple #[.bool true, ek p.1, ev p.2]) (w' := { w with drawn := n, heap := w.heap.setIfInBounds it (.mapIter (some r) c (seen.push e.born) c) }) (by rw [hrun, hn, hk, hv]; rfl) ⟨_, .inr ⟨i, p, hti, rfl, rfl⟩, ?_⟩
     have heL : e ∈ left := Array.mem_of_getElem? he
     rw [← hleft, Array.mem_filter] at heL
     have s3 := Sat.setObj (o' := .mapIter (some r) c (seen.push e.born) c) (s2.perm (List.Perm.swap _ _ _))
     have s4 := (s3.perm (List.Perm.swap _ _ _)).join
     refine Sat.drew (s4.head fun k ⟨k1, k2, d, ek', a1, a2⟩ => ⟨es, c, seen.push e.born, by rw [ek', show k1 = _ from a1, show k2 = _ from a2], hne, hm, ?_, fun p' hp' => ?_⟩) hdn
     · -- what is left
       have hnd : (left.toList.map (·.born)).Nodup := by
         rw [← hleft]
         have : (es.toList.map (·.born)).Pairwise (· < ·) := List.pairwise_map.2 hm.born
         have h3 : (es.toList.map (·.born)).Nodup := this.imp (fun h => Nat.ne_of_lt h)
         simp only [Array.toList_filter]
         exact h3.sublist (List.filter_sublist.map _)
       have hfil : (es.toList.filter fun x => !(seen.push e.born).contains x.born) = left.toList.eraseIdx i := by
         have e1 : (es.toList.filter fun x => !(seen.push e.born).contains x.born) = left.toList.filter fun x => x.born != e.born := by
           rw [← hleft]
           simp only [Array.toList_filter, List.filter_filter]
           congr 1
           funext x
           simp only [Array.contains_push, Bool.not_or]
           rw [Bool.and_comm]
           by_cases hx : x.born = e.born
           · simp [hx]
           · simp [hx, bne]
         rw [e1]
         have hei : left.toList[i]? = some e := by rw [Array.getElem?_toList]; exact he
         clear hn hrun hleft hold hnew htl hlen heL s3 s4 he e1 hti
         generalize left.toList = l at hnd hei
         induction l generalizing i with
         | nil => simp at hei
         | cons y l ih =>
           simp only [List.map_cons, List.nodup_cons] at hnd
           cases i with
           | zero =>
             simp only [List.getElem?_cons_zero, Option.some.injEq] at hei
             subst hei
             simp only [List.filter_cons, bne_self_eq_false, Bool.false_eq_true, if_false, List.eraseIdx_cons_zero]
             rw [List.filter_eq_self]
             intro x hx
             rw [bne_iff_ne]
             intro hxe
             exact hnd.1 (List.mem_map.2 ⟨x, hx, hxe⟩)
           | succ i =>
             simp only [List.getElem?_cons_succ] at hei
             have hye : y.born ≠ e.born := fun h => hnd.1 (h ▸ List.mem_map.2 ⟨e, List.mem_of_getElem? hei, rfl⟩)
             have hb : (y.born != e.born) = true := bne_iff_ne.2 hye
             simp only [List.filter_cons, hb, if_true, List.eraseIdx_cons_succ]
             rw [ih i hnd.2 hei]
       rw [hfil, map_eraseIdx', htl, map_eraseIdx']
     · cases hp'
       exact ⟨e, Array.mem_toList_iff.2 heL.1, by simp, hk, hv⟩
end range
end Slb

/- Base 9: slices that a walk owns; append. -/
namespace Slb
open Go

/-- What append asks of an element's type. -/
structure ElemTy (P : Program) (e : TypeId) (z : Nat) : Prop where
 info : ∃ i zv, P.info? e = some i ∧ i.size = z ∧ i.bytes ≤ 4096 ∧ i.zero = some zv ∧ zv.cells.size = z
/-- A slice and its array: the rows of xs, behind what lies ahead in the array; room behind them. -/
def slA {α : Type} (e : TypeId) (z : Nat) (enc : α → List Value) (v : Value) (xs : List α) : HProp := fun h =>
 (v = .slice none 0 0 ∧ xs = [] ∧ h = PH.none) ∨
 ∃ b off c pre spare post, v = .slice (some ⟨b, off, none⟩) xs.length c ∧ h = PH.single b (.cells (pre ++ (xs.flatMap enc ++ (spare ++ post))).toArray e (0, 0)) ∧ pre.length = off ∧ xs.length ≤ c ∧ spare.length = (c - xs.length) * z
/-- What a slice reads as. -/
def RowsAt (S : List HProp) (F : Fr) (v : Value) (n z : Nat) (cells : List Value) : Prop :=
 cells.length = n * z ∧ ((v = .slice none 0 0 ∧ n = 0) ∨ ∃ b off c, v = .slice (some ⟨b, off, none⟩) n c ∧ ∀ w, Sat S F w → ∃ l ty fz, w.heap[b]? = some (.cells l.toArray ty fz) ∧ SubL l off (n * z) cells)
theorem flatMap_len {α : Type} {enc : α → List Value} {z : Nat} (hl : ∀ x, (enc x).length = z) (xs : List α) : (xs.flatMap enc).length = xs.length * z := by
 induction xs with
 | nil => simp
 | cons x xs ih => simp only [List.flatMap_cons, List.length_append, hl, ih, List.length_cons, Nat.add_one_mul]; omega
theorem flatMap_cell {α : Type} {enc : α → List Value} (hc : ∀ x, ∀ v ∈ enc x, Value.cellB v = true) (xs : List α) : ∀ v ∈ xs.flatMap enc, Value.cellB v = true := fun v hv => by
 obtain ⟨x, _, hx⟩ := List.mem_flatMap.1 hv
 exact hc x v hx
theorem rows_at {α : Type} {enc : α → List Value} {xs : List α} {i : Nat} (h : i < xs.length) : xs.flatMap enc = (xs.take i).flatMap enc ++ enc xs[i] ++ (xs.drop (i + 1)).flatMap enc := by
 have : xs = xs.take i ++ xs[i] :: xs.drop (i + 1) := by simp
 have e := congrArg (List.flatMap enc) this
 rw [List.flatMap_append, List.flatMap_cons, ← List.append_assoc] at e
 exact e
theorem take_len {α : Type} {enc : α → List Value} {z : Nat} (hl : ∀ x, (enc x).length = z) {xs : List α} {i : Nat} (h : i ≤ xs.length) : ((xs.take i).flatMap enc).length = i * z := by
 rw [flatMap_len hl, List.length_take, Nat.min_eq_left h]
/-- The row of element i. -/
theorem sub_row {α : Type} {enc : α → List Value} {z : Nat} (hl : ∀ x, (enc x).length = z) {xs : List α} {i : Nat} {x : α} (h : xs[i]? = some x) : SubL (xs.flatMap enc) (i * z) z (enc x) := by
 obtain ⟨hlt, rfl⟩ := List.getElem?_eq_some_iff.1 h
 exact ⟨(xs.take i).flatMap enc, (xs.drop (i + 1)).flatMap enc, rows_at hlt, take_len hl (Nat.le_of_lt hlt), hl _⟩
theorem set_row {α : Type} {enc : α → List Value} {z : Nat} (hl : ∀ x, (enc x).length = z) {xs : List α} {i : Nat} (x : α) (h : i < xs.length) : SetL (xs.flatMap enc) (i * z) z (enc x) ((xs.set i x).flatMap enc) := by
 refine ⟨(xs.take i).flatMap enc, enc xs[i], (xs.drop (i + 1)).flatMap enc, rows_at h, ?_, take_len hl (Nat.le_of_lt h), hl _, hl _⟩
 rw [List.set_eq_take_append_cons_drop, if_pos h, List.flatMap_append, List.flatMap_cons, List.append_assoc]
theorem next_cap {need cap : Nat} (h : cap < need) : Builtin.nextslicecap need cap ≤ 2 * need := by
 unfold Builtin.nextslicecap
 split
 · omega
 · split
   · omega
   · have grow : ∀ r c, 256 ≤ c → c < need → Builtin.growBy need r c ≤ 2 * need := by
       intro r
       induction r with
       | zero => intro c _ hc; simp only [Builtin.growBy]; omega
       | succ r ih =>
         intro c h1 h2
         unfold Builtin.growBy
         rw [if_neg (by omega)]
         by_cases h3 : c + (c + 768) / 4 < need
         · exact ih _ (by omega) h3
         · cases r with
           | zero => simp only [Builtin.growBy]; omega
           | succ r => unfold Builtin.growBy; rw [if_pos (by omega)]; omega
     exact grow 4 cap (by omega) h
theorem zeroCells_size (zero : Array Value) (n : Nat) : (Builtin.zeroCells zero n).size = n * zero.size := by unfold Builtin.zeroCells; simp

section append
variable {P : Program} {N : Nat} {G : Env} {S S1 : List HProp} {F : Fr} {o : Oper} {t t1 e : TypeId} {x y : Operand} {z : Nat} {α : Type} {enc : α → List Value}
theorem RowsAt.load {v : Value} {n : Nat} {cells : List Value} (h : RowsAt S F v n z cells) {w : World} (s : Sat S F w) : (Builtin.firstCells z n v).run P w = .ok cells.toArray w := by
 obtain ⟨hl, ⟨rfl, rfl⟩ | ⟨b, off, c, rfl, hr⟩⟩ := h
 · have : cells = [] := List.eq_nil_of_length_eq_zero (by simpa using hl)
   subst this
   simp [Builtin.firstCells]
 · obtain ⟨l, ty, fz, hh, hs⟩ := hr w s
   simp only [Builtin.firstCells, loadCells]
   have := run_loadCells (P := P) hh (off := off) [] cells 0 #[] (fun j hj => by rw [Nat.zero_add]; exact hs.get (by omega))
   rw [hl] at this
   rw [this]; simp
theorem RowsAt.len {v : Value} {n : Nat} {cells : List Value} (h : RowsAt S F v n z cells) (w : World) : (Builtin.lenOf v).run P w = .ok n w := by
 obtain ⟨_, ⟨rfl, rfl⟩ | ⟨b, off, c, rfl, _⟩⟩ := h <;> simp [Builtin.lenOf]
theorem EF.append (hE : ElemTy P e z) (hl : ∀ x, (enc x).length = z) (hc : ∀ x, ∀ v ∈ enc x, Value.cellB v = true) {ts : Array TypeId} (ho : o.op = .call ⟨.builtin .append, #[x, y], ts⟩) (ht : ts[0]? = some t) (ht1 : ts[1]? = some t1)
   (hu : P.underlying t = some (.slice e)) (hu1 : P.underlying t1 = some (.slice e)) {v u : Value} {xs ys : List α} (hx : opv G x = some v) (hy : opv G y = some u) (pk : Pick S (slA e z enc v xs) S1)
   (hr : RowsAt S1 F u ys.length z (ys.flatMap enc)) (hb : xs.length + ys.length ≤ 4294967296) : EF P N G S F o fun v' S' => S' = slA e z enc v' (xs ++ ys) :: S1 := fun a w st => by
 obtain ⟨i, zv, hi, hz, hby, hzero, hzv⟩ := hE.info
 have hsz : ∀ w, (Go.sizeOf e).run P w = .ok z w := fun w => by rw [run_sizeOf w hi]; unfold Program.cellsOf; rw [hi]; simp [hz]
 have hti : ∀ w, (typeInfo e).run P w = .ok i w := fun w => by unfold typeInfo; simp [program, Sem.run, hi, bind, Sem.bind, pure]
 have hzr : ∀ w, (zeroValue e).run P w = .ok zv w := fun w => by unfold zeroValue; simp only [Sem.run_bind, hti, Result.andThen_ok, hzero, Sem.run_pure]
 have s0 := st.sat.perm pk.perm
 have sS1 := s0.drop
 have hload := hr.load (P := P) sS1
 have hlen := hr.len (P := P) w
 have hmap : #[x, y].map a.eval = #[v, u] := by simp [st.eval hx, st.eval hy]
 have hexec : ∀ {v' w'}, (Builtin.append_ ts o.type #[v, u]).run P w = .ok v' w' → (execOp a.eval o).run P w = .ok (.value v') w' := fun {v' w'} h => by
   unfold execOp
   simp only [ho, resolve, hmap]
   simp only [Sem.run_bind, Sem.run_pure, Result.andThen_ok, Go.invoke, Go.builtin, h]
 obtain ⟨c1, c2, c3, c4, k, ⟨h1, h2, dd, e1, hA, e4⟩, f, g⟩ := s0
 have mkNew : ∀ (old : List Value) (n : Nat), old = xs.flatMap enc → xs.length + ys.length ≤ n →
     Sat (slA e z enc (.slice (some ⟨w.heap.size, 0, none⟩) (xs.length + ys.length) n) (xs ++ ys) :: S1) F { w with heap := w.heap.push (.cells (old.toArray ++ (ys.flatMap enc).toArray ++ Builtin.zeroCells zv.cells (n - (xs.length + ys.length))) e) } := by
   intro old n hold hn
   subst hold
   have s3 := sS1.new (.cells ((xs.flatMap enc).toArray ++ (ys.flatMap enc).toArray ++ Builtin.zeroCells zv.cells (n - (xs.length + ys.length))) e)
   refine s3.head fun k hk => .inr ⟨w.heap.size, 0, n, [], (Builtin.zeroCells zv.cells (n - (xs.length + ys.length))).toList, [], by simp, ?_, rfl, by simpa using hn, ?_⟩
   · rw [show k = _ from hk]
     congr 2
     apply Array.ext'
     simp
   · simp only [Array.length_toList, zeroCells_size, hzv, List.length_append]
 have grow : ∀ (v0 : Value) (cap : Nat), (Builtin.firstCells z xs.length v0).run P w = .ok (xs.flatMap enc).toArray w → v0 = v → (∃ ba, v0 = .slice ba xs.length cap) → cap < xs.length + ys.length →
     ∃ v' w', (Builtin.append_ ts o.type #[v, u]).run P w = .ok v' w' ∧ Sat (slA e z enc v' (xs ++ ys) :: S1) F w' := by
   rintro v0 cap hf rfl ⟨ba, rfl⟩ hcap
   have hq : ∃ n d, w.drawn ≤ d ∧ xs.length + ys.length ≤ n ∧ (choose (.appendCap (xs.length + ys.length) cap e)).run P w = .ok n { w with drawn := d } := by
     unfold choose
     simp only [Sem.run, Question.forced]
     exact ⟨_, _, Nat.le_succ _, Nat.le_add_right _ _, rfl⟩
   obtain ⟨n, d, hdd, hn, hch⟩ := hq
   have hask : ∀ w : World, (askRoom (n * i.bytes)).run P w = .ok () w := fun w => by
     unfold askRoom
     split
     · simp [mark, Sem.run]
     · simp
   have hcapb : ¬ (Builtin.nextslicecap (xs.length + ys.length) cap * i.bytes > 2 ^ 48) := by
     have h1 := next_cap hcap
     have h2 : Builtin.nextslicecap (xs.length + ys.length) cap * i.bytes ≤ (2 * 4294967296) * 4096 := Nat.mul_le_mul (by omega) hby
     omega
   have s1d : Sat S1 F { w with drawn := d } := sS1.drew hdd
   have hload' := hr.load (P := P) s1d
   have hf' : (Builtin.firstCells z xs.length (.slice ba xs.length cap)).run P { w with drawn := d } = .ok (xs.flatMap enc).toArray { w with drawn := d } := by
     have key : ∀ {q : Sem (Array Value)} {r0 : Array Value}, q = Builtin.firstCells z xs.length (.slice ba xs.length cap) → q.run P w = .ok r0 w → q.run P { w with drawn := d } = .ok r0 { w with drawn := d } := by
       intro q r0 hq hrun
       subst hq
       cases ba with
       | none => simp only [Builtin.firstCells, Sem.run_pure] at hrun ⊢; cases hrun; rfl
       | some ad =>
         simp only [Builtin.firstCells, loadCells] at hrun ⊢
         have gen : ∀ (m i : Nat) (acc r0 : Array Value), (loadCellsFrom ad i m acc).run P w = .ok r0 w → (loadCellsFrom ad i m acc).run P { w with drawn := d } = .ok r0 { w with drawn := d } := by
           intro m
           induction m with
           | zero => intro i acc r0 h; simp only [loadCellsFrom, Sem.run_pure] at h ⊢; cases h; rfl
           | succ m ih =>
             intro i acc r0 h
             simp only [loadCellsFrom, Sem.run_bind] at h ⊢
             unfold load at h ⊢
             simp only [Sem.run] at h ⊢
             have hc : World.cell? { w with drawn := d } (ad.add i) = w.cell? (ad.add i) := rfl
             rw [hc]
             cases hcell : w.cell? (ad.add i) with
             | some cv => rw [hcell] at h; simp only [Result.andThen_ok] at h ⊢; exact ih _ _ _ h
             | none =>
               rw [hcell] at h
               simp only at h
               split at h
               · rename_i v1 tt hfar
                 have hfar' : World.farLoad P { w with drawn := d } (ad.add i) false = .ok (v1, tt) := hfar
                 simp only [Result.andThen_ok] at h
                 have hm : (Mode.plain == Mode.atomic) = false := rfl
                 simp only [hm] at hfar ⊢
                 have hfar2 : World.farLoad P { w with drawn := d } (ad.add i) false = World.farLoad P w (ad.add i) false := rfl
                 rw [hfar2, hfar]
                 simp only [Result.andThen_ok]
                 exact ih _ _ _ h
               · simp at h
         exact gen _ _ _ _ hrun
     exact key rfl hf
   refine ⟨_, _, ?_, (mkNew _ n rfl hn).drew hdd⟩
   unfold Builtin.append_
   simp only [ht, ht1, List.getElem?_toArray, List.getElem?_cons_zero, List.getElem?_cons_succ, Sem.run_bind, run_underlying hu, run_underlying hu1, Result.andThen_ok, hsz, Sem.run_pure, hlen, Bool.false_eq_true, if_false, Bool.not_false]
   rw [if_neg (by omega)]
   have hneg : ¬ (((xs.length + ys.length : Nat) : Int) > IntKind.i64.max) := by rw [IntKind.max_i64]; omega
   simp only [Sem.run_bind, hti, Result.andThen_ok, Bool.false_eq_true, false_or, hneg, false_and, if_false, hcapb, hch, hask, hf', hload', hzr, Sem.run_pure]
   simp [newRow, newObj, Sem.run]
   have ea : (xs.flatMap enc).toArray ++ ((ys.flatMap enc).toArray ++ Builtin.zeroCells zv.cells (n - (xs.length + ys.length))) = (xs.flatMap enc ++ ys.flatMap enc).toArray ++ Builtin.zeroCells zv.cells (n - (xs.length + ys.length)) := by
     apply Array.ext'; simp
   rw [hload']
   simp only [Result.andThen_ok]
   unfold World.alloc
   rw [ea]
 rcases hA with ⟨rfl, rfl, rfl⟩ | ⟨b, off, c, pre, spare, post, rfl, rfl, hpre, hcle, hsp⟩
 · by_cases hy0 : ys.length = 0
   · have hys : ys = [] := List.eq_nil_of_length_eq_zero hy0
     subst hys
     refine estep_value (v := .slice none 0 0) (w' := w) (hexec ?_) ⟨_, rfl, ?_⟩
     · unfold Builtin.append_
       simp only [ht, ht1, List.getElem?_toArray, List.getElem?_cons_zero, List.getElem?_cons_succ, Sem.run_bind, run_underlying hu, run_underlying hu1, Result.andThen_ok, hsz, Sem.run_pure, hlen, Bool.false_eq_true, if_false, Bool.not_false, List.length_nil, Nat.add_zero, Nat.le_refl, if_true]
       simp only [List.length_nil] at hload
       simp [hload]
     · exact ⟨c1, c2, c3, c4, k, ⟨PH.none, h2, dd, e1, .inl ⟨rfl, rfl, rfl⟩, e4⟩, f, g⟩
   · obtain ⟨v', w', hrun, hs⟩ := grow (.slice none 0 0) 0 (by simp [Builtin.firstCells]) rfl ⟨none, rfl⟩ (by simp; omega)
     exact estep_value (hexec hrun) ⟨_, rfl, hs⟩
 · have hbl : w.heap[b]? = some (.cells (pre ++ (xs.flatMap enc ++ (spare ++ post))).toArray e (0, 0)) := g b _ (by rw [e1]; exact PH.le_union_left b _ (single_self _ _))
   have hxl := flatMap_len hl xs
   have hyl := flatMap_len hl ys
   by_cases hroom : xs.length + ys.length ≤ c
   · obtain ⟨w', r1, r2, r3, r4, r5, r6⟩ := run_storeCells (P := P) (off := off + xs.length * z) (ys.flatMap enc) 0 w _ hbl (by
       simp only [List.length_append, hxl, hyl, hpre, hsp]
       have : ys.length * z ≤ (c - xs.length) * z := Nat.mul_le_mul_right z (by omega)
       omega) (flatMap_cell hc ys)
     refine estep_value (v := .slice (some ⟨b, off, none⟩) (xs.length + ys.length) c) (w' := w') (hexec ?_) ⟨_, rfl, ?_⟩
     · unfold Builtin.append_
       simp only [ht, ht1, List.getElem?_toArray, List.getElem?_cons_zero, List.getElem?_cons_succ, Sem.run_bind, run_underlying hu, run_underlying hu1, Result.andThen_ok, hsz, Sem.run_pure, hlen, Bool.false_eq_true, if_false, Bool.not_false, hroom, if_true, hload, add_lit]
       rw [r1]
       simp
     · have s1 : Sat (pts b (.cells (pre ++ (xs.flatMap enc ++ (spare ++ post))).toArray e (0, 0)) :: S1) F w := ⟨c1, c2, c3, c4, k, ⟨_, h2, dd, e1, rfl, e4⟩, f, g⟩
       refine (s1.set _ r2 r3 r4 r5 r6).head fun k hk => .inr ⟨b, off, c, pre, spare.drop (ys.length * z), post, by simp, ?_, hpre, by simp; omega, ?_⟩
       · rw [show k = _ from hk]
         congr 3
         simp only [Nat.add_zero, List.flatMap_append, List.append_assoc]
         have hle : ys.length * z ≤ spare.length := by rw [hsp]; exact Nat.mul_le_mul_right z (by omega)
         have e1 : (pre ++ (xs.flatMap enc ++ (spare ++ post))).take (off + xs.length * z) = pre ++ xs.flatMap enc := by
           rw [← List.append_assoc]
           exact List.take_left' (by simp [hpre, hxl])
         have e2 : (pre ++ (xs.flatMap enc ++ (spare ++ post))).drop (off + xs.length * z + (ys.flatMap enc).length) = spare.drop (ys.length * z) ++ post := by
           rw [← List.append_assoc, ← List.drop_drop, List.drop_left' (by simp [hpre, hxl]), hyl, List.drop_append_of_le_length hle]
         rw [e1, e2]
         simp
       · simp only [List.length_drop, hsp, List.length_append]
         rw [← Nat.sub_mul]
         congr 1
         omega
   · obtain ⟨v', w', hrun, hs⟩ := grow (.slice (some ⟨b, off, none⟩) xs.length c) c (by
       have hr' : RowsAt [pts b (.cells (pre ++ (xs.flatMap enc ++ (spare ++ post))).toArray e (0, 0))] F (.slice (some ⟨b, off, none⟩) xs.length c) xs.length z (xs.flatMap enc) :=
         ⟨hxl, .inr ⟨b, off, c, rfl, fun w s => ⟨_, e, (0, 0), s.at, ⟨pre, spare ++ post, by simp, hpre, hxl⟩⟩⟩⟩
       refine hr'.load (P := P) (w := w) ?_
       have s1 : Sat (pts b (.cells (pre ++ (xs.flatMap enc ++ (spare ++ post))).toArray e (0, 0)) :: S1) F w := ⟨c1, c2, c3, c4, k, ⟨_, h2, dd, e1, rfl, e4⟩, f, g⟩
       exact Sat.dropR (m := [_]) (r := S1) s1) rfl ⟨_, rfl⟩ (by omega)
     exact estep_value (hexec hrun) ⟨_, rfl, hs⟩
end append
end Slb

/- Base 10: results in cells; looking up, told apart; contracts lent and changed; tables of pointers to blocks. -/
namespace Slb
open Go

section
variable {P : Program} {N : Nat} {G : Env} {S : List HProp} {F : Fr}
theorem res_cell {fn : Func} {t b k : Nat} {ty ety : TypeId} {l : List Value} (h : fn.results = #[.cell t ty]) (hv : lk G t = some (.pointer (some ⟨b, 0, none⟩))) (ht : Agg P ty k) [hb : HasBlk b S l ety] (hs : SubL l 0 k l) :
   J N G S F fun a w => (results fn a.tmps).run P w = .ok (.agg l.toArray) w := fun a w s => by
 have h1 := s.slots t _ hv
 have := run_loadAgg ht (s.sat.mem hb.mem) hs
 simp [results, h, h1, asAddr, Sem.run, this, pure]
theorem res_cell1 {fn : Func} {t b : Nat} {ty ety : TypeId} {v : Value} (h : fn.results = #[.cell t ty]) (hv : lk G t = some (.pointer (some ⟨b, 0, none⟩))) (ht : Sca P ty) [hb : HasBlk b S [v] ety] :
   J N G S F fun a w => (results fn a.tmps).run P w = .ok v w := fun a w s => by
 have h1 := s.slots t _ hv
 have := run_loadSca ht (s.sat.mem hb.mem) (SubL.one (v := v))
 simp [results, h, h1, asAddr, Sem.run, this, pure]
theorem res_cell2 {fn : Func} {t u b k : Nat} {ty ety : TypeId} {l : List Value} {x : Value} (h : fn.results = #[.cell t ty, .tmp u]) (hv : lk G t = some (.pointer (some ⟨b, 0, none⟩))) (ht : Agg P ty k) [hb : HasBlk b S l ety] (hs : SubL l 0 k l) (hx : lk G u = some x) :
   J N G S F fun a w => (results fn a.tmps).run P w = .ok (.tuple #[.agg l.toArray, x]) w := fun a w s => by
 have h1 := s.slots t _ hv
 have h2 := s.slots u _ hx
 have := run_loadAgg ht (s.sat.mem hb.mem) hs
 simp [results, h, h1, h2, asAddr, Sem.run, this, pure]
end

section
variable {P : Program} {f : FuncId} {args : Array Value} {S : List HProp} {F : Fr} {R : Value → List HProp → Prop}
theorem Spec.lend {m r : List HProp} (h : ∀ F' : Fr, PH.le F.h F'.h → (∀ b o, pts b o ∈ r → F'.h b = some o) → Spec P f args m F' R) : Spec P f args (m ++ r) F fun v S => ∃ S1, R v S1 ∧ S = S1 ++ r := fun w s => by
 obtain ⟨F', s1, hle, hr, back⟩ := s.lend
 exact (h F' hle hr w s1).mono fun e w' ⟨v, S', he, hR, s'⟩ => ⟨v, S' ++ r, he, ⟨S', hR, rfl⟩, back _ _ s'⟩
theorem Spec.pre {α : Type} {T : α → List HProp} (h : ∀ w, Sat S F w → ∃ x, Sat (T x) F w) (j : ∀ x, Spec P f args (T x) F R) : Spec P f args S F R := fun w s =>
 let ⟨x, hx⟩ := h w s; j x w hx
theorem Spec.fact {p : Prop} (j : p → Spec P f args S F R) : Spec P f args (Slb.fact p :: S) F R := fun w s => let ⟨hp, s'⟩ := s.fact; j hp w s'
theorem Spec.perm {S' : List HProp} (p : S.Perm S') (j : Spec P f args S' F R) : Spec P f args S F R := fun w s => j w (s.perm p)
theorem Spec.post {R' : Value → List HProp → Prop} (j : Spec P f args S F R) (h : ∀ v S1 w, R v S1 → Sat S1 F w → ∃ S2, R' v S2 ∧ Sat S2 F w) : Spec P f args S F R' := fun w s =>
 (j w s).mono fun _ w' ⟨v, S1, he, r, s1⟩ => let ⟨S2, r2, s2⟩ := h v S1 w' r s1; ⟨v, S2, he, r2, s2⟩
theorem Sat.single {A : HProp} {w : World} (h : ∀ k, stars S k → A k) (s : Sat S F w) : Sat [A] F w :=
 Sat.mono (S := S) (fun k hk => ⟨k, PH.le.refl k, stars_one.2 (h k hk)⟩) s
theorem Sat.unpack {A : HProp} {w : World} {r : List HProp} (s : Sat (A :: r) F w) : ∃ p, A p ∧ ∀ m : List HProp, stars m p → Sat (m ++ r) F w := by
 obtain ⟨a, b, c, d, k, ⟨h1, h2, e1, e2, e3, e4⟩, f, g⟩ := s
 exact ⟨h1, e3, fun m hm => ⟨a, b, c, d, k, stars_append.2 ⟨h1, h2, e1, e2, hm, e4⟩, f, g⟩⟩
theorem Sat.pack {A : HProp} {w : World} {m r : List HProp} (s : Sat (m ++ r) F w) (h : ∀ p, stars m p → A p) : Sat (A :: r) F w := by
 obtain ⟨a, b, c, d, k, e, f, g⟩ := s
 obtain ⟨h1, h2, e1, e2, e3, e4⟩ := stars_append.1 e
 exact ⟨a, b, c, d, k, ⟨h1, h2, e1, e2, h _ e3, e4⟩, f, g⟩
end

/-! ### Tables: a map of pointers, each to a block of its own -/
@[reducible] def pv (b : Nat) : Value := .pointer (some ⟨b, 0, none⟩)
section tables
variable {K α β : Type} [DecidableEq K]
theorem alook_map (f : α → β) (E : List (K × α)) (k : K) : alook (E.map fun e => (e.1, f e.2)) k = (alook E k).map f := by
 induction E with
 | nil => rfl
 | cons e E ih =>
   obtain ⟨a, v⟩ := e
   simp only [List.map_cons, alook]
   by_cases h : a = k
   · simp [h]
   · simp [h, ih]
theorem aset_map (f : α → β) (E : List (K × α)) (k : K) (v : α) : (aset E k v).map (fun e => (e.1, f e.2)) = aset (E.map fun e => (e.1, f e.2)) k (f v) := by
 induction E with
 | nil => rfl
 | cons e E ih =>
   obtain ⟨a, u⟩ := e
   simp only [List.map_cons, aset]
   by_cases h : a = k
   · simp [h]
   · simp [h, ih]
theorem alook_split {E : List (K × α)} {k : K} {v : α} (h : alook E k = some v) : ∃ A B, E = A ++ (k, v) :: B ∧ alook A k = none := by
 induction E with
 | nil => cases h
 | cons e E ih =>
   obtain ⟨a, u⟩ := e
   unfold alook at h
   by_cases hk : a = k
   · rw [if_pos hk] at h; cases h; subst hk; exact ⟨[], E, rfl, rfl⟩
   · rw [if_neg hk] at h
     obtain ⟨A, B, rfl, hA⟩ := ih h
     exact ⟨(a, u) :: A, B, rfl, by simp [alook, hk, hA]⟩
theorem aset_split {A B : List (K × α)} {k : K} {v u : α} (h : alook A k = none) : aset (A ++ (k, v) :: B) k u = A ++ (k, u) :: B := by
 induction A with
 | nil => simp [aset]
 | cons e A ih =>
   obtain ⟨a, x⟩ := e
   unfold alook at h
   by_cases hk : a = k
   · rw [if_pos hk] at h; cases h
   · rw [if_neg hk] at h; simp [aset, hk, ih h]
theorem adel_split {A B : List (K × α)} {k : K} {v : α} (h : alook A k = none) : adel (A ++ (k, v) :: B) k = A ++ B := by
 induction A with
 | nil => simp [adel]
 | cons e A ih =>
   obtain ⟨a, x⟩ := e
   unfold alook at h
   by_cases hk : a = k
   · rw [if_pos hk] at h; cases h
   · rw [if_neg hk] at h; simp [adel, hk, ih h]
theorem alook_mem_of_nodup {E : List (K × α)} (hn : (E.map (·.1)).Nodup) {k : K} {v : α} (h : (k, v) ∈ E) : alook E k = some v := by
 obtain ⟨j, hj⟩ := List.getElem?_of_mem h
 exact (nodup_at hn hj).1
/-- The blocks of a table. -/
def rows (enc : α → List Value) (ty : TypeId) (E : List (K × (Nat × α))) : List HProp := E.map fun e => blk e.2.1 (enc e.2.2) ty
def ptrs (E : List (K × (Nat × α))) : List (K × Nat) := E.map fun e => (e.1, e.2.1)
def vals (E : List (K × (Nat × α))) : List (K × α) := E.map fun e => (e.1, e.2.2)
theorem alook_ptrs (E : List (K × (Nat × α))) (k : K) : alook (ptrs E) k = (alook E k).map (·.1) := alook_map _ _ _
theorem ptrs_aset (E : List (K × (Nat × α))) (k : K) (x : Nat × α) : ptrs (aset E k x) = aset (ptrs E) k x.1 := aset_map _ _ _ _
end tables
end Slb

/- Base 11: slices that are read; append of one; slices that are written out. -/
namespace Slb
open Go

def elOk (P : Program) (e z : Nat) : Bool := match P.info? e with
 | some i => Nat.beq i.size z && Nat.ble i.bytes 4096 && (match i.zero with | some zv => Nat.beq zv.cells.size z | none => false)
 | none => false
theorem ElemTy.of {P : Program} {e z : Nat} (h : elOk P e z = true) : ElemTy P e z := by
 unfold elOk at h
 split at h
 · rename_i i hi
   simp only [Bool.and_eq_true] at h
   obtain ⟨⟨h1, h2⟩, h3⟩ := h
   split at h3
   · rename_i zv hz
     exact ⟨i, zv, hi, Nat.eq_of_beq_eq_true h1, Nat.le_of_ble_eq_true h2, hz, Nat.eq_of_beq_eq_true h3⟩
   · cases h3
 · cases h
section
variable {P : Program} {N : Nat} {G : Env} {S S1 : List HProp} {F : Fr} {Φ : Act → World → Prop} {α : Type} {enc : α → List Value} {e : TypeId} {z : Nat}
/-- The rows of xs lie in block b from off on. -/
def SlAt (S : List HProp) (F : Fr) (b off z : Nat) (enc : α → List Value) (xs : List α) : Prop := ∀ w, Sat S F w → ∃ l ty fz, w.heap[b]? = some (.cells l.toArray ty fz) ∧ SubL l off (xs.length * z) (xs.flatMap enc)
theorem SlAt.own {b off n c : Nat} {xs : List α} (hl : ∀ x, (enc x).length = z) (h : slA e z enc (.slice (some ⟨b, off, none⟩) n c) xs ∈ S) : SlAt S F b off z enc xs := fun w s => by
 obtain ⟨p, hp, hle⟩ := s.memX h
 rcases hp with ⟨h1, _, _⟩ | ⟨b', off', c', pre, spare, post, h1, rfl, h3, h4, h5⟩
 · cases h1
 · simp only [Value.slice.injEq, Option.some.injEq, Addr.mk.injEq, and_true] at h1
   obtain ⟨⟨rfl, rfl⟩, rfl, rfl⟩ := h1
   exact ⟨_, _, _, hle _ _ (single_self _ _), ⟨pre, spare ++ post, by simp, h3, flatMap_len hl xs⟩⟩
theorem SlAt.fr {b off : Nat} {xs : List α} {l : List Value} {ty : TypeId} {fz : Nat × Nat} (h : F.h b = some (.cells l.toArray ty fz)) (hs : SubL l off (xs.length * z) (xs.flatMap enc)) : SlAt S F b off z enc xs := fun w s => ⟨l, ty, fz, s.frame h, hs⟩
theorem SlAt.row {b off i : Nat} {xs : List α} {x : α} (hl : ∀ x, (enc x).length = z) (h : SlAt S F b off z enc xs) (hi : xs[i]? = some x) {w : World} (s : Sat S F w) : ∃ l ty fz, w.heap[b]? = some (.cells l.toArray ty fz) ∧ SubL l (off + i * z) z (enc x) := by
 obtain ⟨l, ty, fz, h1, h2⟩ := h w s
 exact ⟨l, ty, fz, h1, h2.trans (sub_row hl hi)⟩
theorem QR.loadSl {o : Oper} {t : TypeId} {x : Operand} {b off i : Nat} {xs : List α} {y : α} (ho : o.op = .load t x) (hx : opv G x = some (.pointer (some ⟨b, off + i * z, none⟩))) (ht : Agg P t z) (hl : ∀ x, (enc x).length = z)
   (h : SlAt S F b off z enc xs) (hi : xs[i]? = some y) : QR P N G S F o (.agg (enc y).toArray) := fun a w st => by
 obtain ⟨l, ty, fz, h1, h2⟩ := h.row hl hi st.sat
 unfold execOp; simp [ho, st.eval hx, Instr.loadAt, Instr.sureAddr, run_loadAgg ht h1 h2]
theorem QR.loadSl1 {o : Oper} {t : TypeId} {x : Operand} {b off i : Nat} {ev : α → Value} {xs : List α} {y : α} (ho : o.op = .load t x) (hx : opv G x = some (.pointer (some ⟨b, off + i * 1, none⟩))) (ht : Sca P t)
   (h : SlAt S F b off 1 (fun x => [ev x]) xs) (hi : xs[i]? = some y) : QR P N G S F o (ev y) := fun a w st => by
 obtain ⟨l, ty, fz, h1, h2⟩ := SlAt.row (z := 1) (enc := fun x => [ev x]) (fun _ => rfl) h hi st.sat
 unfold execOp; simp only [ho, st.eval hx, Instr.loadAt, Instr.sureAddr, Sem.run_bind, Sem.run_pure, Result.andThen_ok, run_loadSca ht h1 h2]
theorem QR.loadSlF {o : Oper} {t : TypeId} {x : Operand} {b off i fo k : Nat} {xs : List α} {y : α} {s : List Value} (ho : o.op = .load t x) (hx : opv G x = some (.pointer (some ⟨b, off + i * z + fo, none⟩))) (ht : Agg P t k) (hl : ∀ x, (enc x).length = z)
   (h : SlAt S F b off z enc xs) (hi : xs[i]? = some y) (hs : SubL (enc y) fo k s) : QR P N G S F o (.agg s.toArray) := fun a w st => by
 obtain ⟨l, ty, fz, h1, h2⟩ := h.row hl hi st.sat
 have h3 := h2.trans hs
 unfold execOp; simp [ho, st.eval hx, Instr.loadAt, Instr.sureAddr, run_loadAgg ht h1 h3]
theorem QR.loadSlF1 {o : Oper} {t : TypeId} {x : Operand} {b off i fo : Nat} {xs : List α} {y : α} {v : Value} (ho : o.op = .load t x) (hx : opv G x = some (.pointer (some ⟨b, off + i * z + fo, none⟩))) (ht : Sca P t) (hl : ∀ x, (enc x).length = z)
   (h : SlAt S F b off z enc xs) (hi : xs[i]? = some y) (hs : SubL (enc y) fo 1 [v]) : QR P N G S F o v := fun a w st => by
 obtain ⟨l, ty, fz, h1, h2⟩ := h.row hl hi st.sat
 have h3 := h2.trans hs
 unfold execOp; simp [ho, st.eval hx, Instr.loadAt, Instr.sureAddr, run_loadSca ht h1 h3]

theorem J.addSl (e : TypeId) (z : Nat) (enc : α → List Value) (j : J N G (slA e z enc (.slice none 0 0) [] :: S) F Φ) : J N G S F Φ := j.conseq fun w s => by
 obtain ⟨a, b, c, d, k, h1, h2, h3⟩ := s
 exact ⟨a, b, c, d, k, ⟨PH.none, k, PH.none_disj k, (PH.none_union k).symm, .inl ⟨rfl, rfl, rfl⟩, h1⟩, h2, h3⟩
theorem RowsAt.one {b : Nat} {x : α} {ty : TypeId} (hl : ∀ x, (enc x).length = z) (h : blk b (enc x) ty ∈ S) : RowsAt S F (.slice (some ⟨b, 0, none⟩) 1 1) [x].length z ([x].flatMap enc) :=
 ⟨flatMap_len hl _, .inr ⟨b, 0, 1, rfl, fun w s => ⟨enc x, ty, (0, 0), s.mem h, by
   have e1 : [x].flatMap enc = enc x := by simp
   rw [e1]
   have := SubL.all (enc x)
   rw [hl] at this
   simpa using this⟩⟩⟩
/-- The rows of xs, in whatever block. -/
theorem RowsAt.sl {b off c : Nat} {xs : List α} (hl : ∀ x, (enc x).length = z) (h : SlAt S F b off z enc xs) : RowsAt S F (.slice (some ⟨b, off, none⟩) xs.length c) xs.length z (xs.flatMap enc) :=
 ⟨flatMap_len hl _, .inr ⟨b, off, c, rfl, h⟩⟩
theorem RowsAt.empty {v : Value} (h : v = .slice none 0 0) : RowsAt S F v ([] : List α).length z (([] : List α).flatMap enc) :=
 ⟨by simp, .inl ⟨h, rfl⟩⟩
/-- A part of them. -/
theorem SlAt.part {b off : Nat} {xs : List α} (hl : ∀ x, (enc x).length = z) (h : SlAt S F b off z enc xs) {i j : Nat} (hij : i ≤ j) (hj : j ≤ xs.length) : SlAt S F b (off + i * z) z enc ((xs.take j).drop i) := fun w s => by
 obtain ⟨l, ty, fz, h1, h2⟩ := h w s
 refine ⟨l, ty, fz, h1, h2.trans ?_⟩
 have e : xs = xs.take i ++ ((xs.take j).drop i ++ xs.drop j) := by
   have e1 : xs.take i = (xs.take j).take i := by rw [List.take_take, Nat.min_eq_left hij]
   rw [e1, ← List.append_assoc, List.take_append_drop, List.take_append_drop]
 refine ⟨(xs.take i).flatMap enc, (xs.drop j).flatMap enc, ?_, ?_, flatMap_len hl _⟩
 · conv => lhs; rw [e]
   simp [List.flatMap_append]
 · rw [flatMap_len hl, List.length_take, Nat.min_eq_left (Nat.le_trans hij hj)]
theorem EF.append1 {o : Oper} {t t1 : TypeId} {x y : Operand} (hE : ElemTy P e z) (hl : ∀ x, (enc x).length = z) (hc : ∀ x, ∀ v ∈ enc x, Value.cellB v = true) {ts : Array TypeId} (ho : o.op = .call ⟨.builtin .append, #[x, y], ts⟩) (ht : ts[0]? = some t) (ht1 : ts[1]? = some t1)
   (hu : P.underlying t = some (.slice e)) (hu1 : P.underlying t1 = some (.slice e)) {v : Value} {xs : List α} {s : α} {b : Nat} {ty : TypeId} (hx : opv G x = some v) (hy : opv G y = some (.slice (some ⟨b, 0, none⟩) 1 1)) (pk : Pick S (slA e z enc v xs) S1)
   (hb : blk b (enc s) ty ∈ S1) (hn : xs.length + 1 ≤ 4294967296) : EF P N G S F o fun v' S' => S' = slA e z enc v' (xs ++ [s]) :: S1 :=
 EF.append hE hl hc ho ht ht1 hu hu1 hx hy pk (RowsAt.one hl hb) hn
/-- A slice of one struct that is written out. -/
theorem EF.buildSlice1 {o : Oper} {t : TypeId} {parts : Array (Nat × Operand)} {l : List Value} {zero : Value} (ho : o.op = .buildSlice t 1 parts) (hu : P.underlying t = some (.slice e)) (hz : Sz P e z)
   (h0 : Zero P e zero) (hzl : zero.cells.size = z) (hzb : z ≤ 16777216) (hi : parts.toList.map (·.1) = [0]) (hv : opvs G (parts.toList.map (·.2)) = some [.agg l.toArray]) (hf : l.length = z) (hz0 : z ≠ 0) :
   EF P N G S F o fun u S' => ∃ b, u = .slice (some ⟨b, 0, none⟩) 1 1 ∧ S' = blk b l e :: S := by
 have := EF.buildSlice (N := N) (S := S) (F := F) ho hu hz h0 hzl (by omega) (by rw [hi]; rfl) hv rfl (by simp [Value.cells, hf]) hz0
 have e1 : ([Value.agg l.toArray].flatMap fun v => v.cells.toList) = l := by simp [Value.cells]
 rw [e1] at this
 exact this
/-- Of scalars. -/
theorem EF.buildSliceS {o : Oper} {t : TypeId} {n : Nat} {parts : Array (Nat × Operand)} {vs : List Value} {zero : Value} (ho : o.op = .buildSlice t n parts) (hu : P.underlying t = some (.slice e)) (hz : Sz P e 1)
   (h0 : Zero P e zero) (hzl : zero.cells.size = 1) (hn : n ≤ 16777216) (hi : parts.toList.map (·.1) = List.range n) (hv : opvs G (parts.toList.map (·.2)) = some vs) (hvl : vs.length = n) (hf : vs.all Value.cellB = true) :
   EF P N G S F o fun u S' => ∃ b, u = .slice (some ⟨b, 0, none⟩) n n ∧ S' = blk b vs e :: S := by
 have hone : ∀ v : Value, Value.cellB v = true → v.cells = #[v] := fun v h => by cases v <;> simp [Value.cellB] at h <;> rfl
 have hall : ∀ v ∈ vs, v.cells = #[v] := fun v hv' => hone v (List.all_eq_true.1 hf v hv')
 have := EF.buildSlice (N := N) (S := S) (F := F) ho hu hz h0 hzl (by omega) hi hv hvl (fun v hv' => by rw [hall v hv']; rfl) (by decide)
 have e1 : (vs.flatMap fun v => v.cells.toList) = vs := by
   clear hv hvl hf this
   induction vs with
   | nil => rfl
   | cons v vs ih => simp only [List.flatMap_cons, hall v List.mem_cons_self, ih fun u hu => hall u (List.mem_cons_of_mem _ hu)]; rfl
 rw [e1] at this
 exact this
end

section
variable {K α : Type}
theorem erase_perm {β : Type} {l : List β} {i : Nat} {x : β} (h : l[i]? = some x) : (x :: l.eraseIdx i).Perm l := by
 induction l generalizing i with
 | nil => simp at h
 | cons y l ih =>
   cases i with
   | zero => simp only [List.getElem?_cons_zero, Option.some.injEq] at h; subst h; exact List.Perm.refl _
   | succ i =>
     simp only [List.getElem?_cons_succ] at h
     simp only [List.eraseIdx_cons_succ]
     exact (List.Perm.swap _ _ _).trans (List.Perm.cons _ (ih h))
end
theorem BytesAt.bs {S : List HProp} {F : Fr} {b off n c : Nat} {l : List Value} {ty : TypeId} {fz : Nat × Nat} {x : Bs n} (h : F.h b = some (.cells l.toArray ty fz)) (hs : SubL l off n x.enc) : BytesAt S F (.slice (some ⟨b, off, none⟩) n c) x.l :=
 .inr ⟨b, off, c, l, by rw [x.h], .fr h, by rw [x.h]; exact hs⟩
section
variable {P : Program} {N : Nat} {G : Env} {S : List HProp} {F : Fr} {ops : Array Oper} {M : List Nat} {q r : Nat} {D : List Nat} {k : Act → World → Prop}
theorem Look.app {a b c : List HProp} [h : App a b c] {j : Nat} (l : Look P N ops G c F j) : Look P N ops G (a ++ b) F j := by rw [h.eq]; exact l
theorem One.skipD {i d : Nat} {o : Oper} (ho : ops[i]? = some o) (hq : q.testBit i = false) (hw : Want N G S F ops o false) (hd : o.dst = some d) (hn : d < N)
   (h : Dw P N ops M q r (i :: D) k (.cons d undef G) S F) : One P N ops M q r D k G S F i := by
 refine ⟨hq, fun a w s o' ho' => ?_⟩
 rw [ho] at ho'; cases ho'
 refine ⟨(fun hf => by rw [hw a w s] at hf; cases hf), fun _ => ?_⟩
 rw [hd]
 exact h _ _ (s.put hn undef s.sat)
end
section
variable {P : Program} {N : Nat} {K : Posts} {G : Env} {S : List HProp} {F : Fr}
theorem ltN {d N : Nat} (h : Nat.ble (d + 1) N = true) : d < N := Nat.le_of_ble_eq_true h
theorem J.envJ {Φ : Act → World → Prop} {G' : Env} (j : J N G' S F Φ) (h : G.agree G') : J N G S F Φ := J.env h j
theorem Run.loop1 {X0 : Type} (I : X0 → Prop) (GI : X0 → Env) (SI : X0 → List HProp) (μ : X0 → Nat) {c : Code} (x0₀ : X0) (i0 : I x0₀) (h0 : ∀ Φ, J N (GI x0₀) (SI x0₀) F Φ → J N G S F Φ)
   (round : ∀ (x0 : X0), I x0 → ∀ k : Act → World → Prop, (∀ (x0' : X0), I x0' → μ x0' < μ x0 → J N (GI x0') (SI x0') F k) → Run P N c (K.setN k) (GI x0) (SI x0) F) : Run P N (.loop c) K G S F :=
 Run.loop (X := { p : X0 // I p }) (fun p => GI p.1) (fun p => SI p.1) (fun p => μ p.1) ⟨(x0₀), i0⟩ h0 fun ⟨(x0), hi⟩ k hk => round x0 hi k fun x0' hi' hl => hk ⟨(x0'), hi'⟩ hl
theorem Run.loop2 {X0 X1 : Type} (I : X0 → X1 → Prop) (GI : X0 → X1 → Env) (SI : X0 → X1 → List HProp) (μ : X0 → X1 → Nat) {c : Code} (x0₀ : X0) (x1₀ : X1) (i0 : I x0₀ x1₀) (h0 : ∀ Φ, J N (GI x0₀ x1₀) (SI x0₀ x1₀) F Φ → J N G S F Φ)
   (round : ∀ (x0 : X0) (x1 : X1), I x0 x1 → ∀ k : Act → World → Prop, (∀ (x0' : X0) (x1' : X1), I x0' x1' → μ x0' x1' < μ x0 x1 → J N (GI x0' x1') (SI x0' x1') F k) → Run P N c (K.setN k) (GI x0 x1) (SI x0 x1) F) : Run P N (.loop c) K G S F :=
 Run.loop (X := { p : X0 × X1 // I p.1 p.2 }) (fun p => GI p.1.1 p.1.2) (fun p => SI p.1.1 p.1.2) (fun p => μ p.1.1 p.1.2) ⟨(x0₀, x1₀), i0⟩ h0 fun ⟨(x0, x1), hi⟩ k hk => round x0 x1 hi k fun x0' x1' hi' hl => hk ⟨(x0', x1'), hi'⟩ hl
theorem Run.loop3 {X0 X1 X2 : Type} (I : X0 → X1 → X2 → Prop) (GI : X0 → X1 → X2 → Env) (SI : X0 → X1 → X2 → List HProp) (μ : X0 → X1 → X2 → Nat) {c : Code} (x0₀ : X0) (x1₀ : X1) (x2₀ : X2) (i0 : I x0₀ x1₀ x2₀) (h0 : ∀ Φ, J N (GI x0₀ x1₀ x2₀) (SI x0₀ x1₀ x2₀) F Φ → J N G S F Φ)
   (round : ∀ (x0 : X0) (x1 : X1) (x2 : X2), I x0 x1 x2 → ∀ k : Act → World → Prop, (∀ (x0' : X0) (x1' : X1) (x2' : X2), I x0' x1' x2' → μ x0' x1' x2' < μ x0 x1 x2 → J N (GI x0' x1' x2') (SI x0' x1' x2') F k) → Run P N c (K.setN k) (GI x0 x1 x2) (SI x0 x1 x2) F) : Run P N (.loop c) K G S F :=
 Run.loop (X := { p : X0 × X1 × X2 // I p.1 p.2.1 p.2.2 }) (fun p => GI p.1.1 p.1.2.1 p.1.2.2) (fun p => SI p.1.1 p.1.2.1 p.1.2.2) (fun p => μ p.1.1 p.1.2.1 p.1.2.2) ⟨(x0₀, x1₀, x2₀), i0⟩ h0 fun ⟨(x0, x1, x2), hi⟩ k hk => round x0 x1 x2 hi k fun x0' x1' x2' hi' hl => hk ⟨(x0', x1', x2'), hi'⟩ hl
theorem Run.loop4 {X0 X1 X2 X3 : Type} (I : X0 → X1 → X2 → X3 → Prop) (GI : X0 → X1 → X2 → X3 → Env) (SI : X0 → X1 → X2 → X3 → List HProp) (μ : X0 → X1 → X2 → X3 → Nat) {c : Code} (x0₀ : X0) (x1₀ : X1) (x2₀ : X2) (x3₀ : X3) (i0 : I x0₀ x1₀ x2₀ x3₀) (h0 : ∀ Φ, J N (GI x0₀ x1₀ x2₀ x3₀) (SI x0₀ x1₀ x2₀ x3₀) F Φ → J N G S F Φ)
   (round : ∀ (x0 : X0) (x1 : X1) (x2 : X2) (x3 : X3), I x0 x1 x2 x3 → ∀ k : Act → World → Prop, (∀ (x0' : X0) (x1' : X1) (x2' : X2) (x3' : X3), I x0' x1' x2' x3' → μ x0' x1' x2' x3' < μ x0 x1 x2 x3 → J N (GI x0' x1' x2' x3') (SI x0' x1' x2' x3') F k) → Run P N c (K.setN k) (GI x0 x1 x2 x3) (SI x0 x1 x2 x3) F) : Run P N (.loop c) K G S F :=
 Run.loop (X := { p : X0 × X1 × X2 × X3 // I p.1 p.2.1 p.2.2.1 p.2.2.2 }) (fun p => GI p.1.1 p.1.2.1 p.1.2.2.1 p.1.2.2.2) (fun p => SI p.1.1 p.1.2.1 p.1.2.2.1 p.1.2.2.2) (fun p => μ p.1.1 p.1.2.1 p.1.2.2.1 p.1.2.2.2) ⟨(x0₀, x1₀, x2₀, x3₀), i0⟩ h0 fun ⟨(x0, x1, x2, x3), hi⟩ k hk => round x0 x1 x2 x3 hi k fun x0' x1' x2' x3' hi' hl => hk ⟨(x0', x1', x2', x3'), hi'⟩ hl
theorem Run.loop5 {X0 X1 X2 X3 X4 : Type} (I : X0 → X1 → X2 → X3 → X4 → Prop) (GI : X0 → X1 → X2 → X3 → X4 → Env) (SI : X0 → X1 → X2 → X3 → X4 → List HProp) (μ : X0 → X1 → X2 → X3 → X4 → Nat) {c : Code} (x0₀ : X0) (x1₀ : X1) (x2₀ : X2) (x3₀ : X3) (x4₀ : X4) (i0 : I x0₀ x1₀ x2₀ x3₀ x4₀) (h0 : ∀ Φ, J N (GI x0₀ x1₀ x2₀ x3₀ x4₀) (SI x0₀ x1₀ x2₀ x3₀ x4₀) F Φ → J N G S F Φ)
   (round : ∀ (x0 : X0) (x1 : X1) (x2 : X2) (x3 : X3) (x4 : X4), I x0 x1 x2 x3 x4 → ∀ k : Act → World → Prop, (∀ (x0' : X0) (x1' : X1) (x2' : X2) (x3' : X3) (x4' : X4), I x0' x1' x2' x3' x4' → μ x0' x1' x2' x3' x4' < μ x0 x1 x2 x3 x4 → J N (GI x0' x1' x2' x3' x4') (SI x0' x1' x2' x3' x4') F k) → Run P N c (K.setN k) (GI x0 x1 x2 x3 x4) (SI x0 x1 x2 x3 x4) F) : Run P N (.loop c) K G S F :=
 Run.loop (X := { p : X0 × X1 × X2 × X3 × X4 // I p.1 p.2.1 p.2.2.1 p.2.2.2.1 p.2.2.2.2 }) (fun p => GI p.1.1 p.1.2.1 p.1.2.2.1 p.1.2.2.2.1 p.1.2.2.2.2) (fun p => SI p.1.1 p.1.2.1 p.1.2.2.1 p.1.2.2.2.1 p.1.2.2.2.2) (fun p => μ p.1.1 p.1.2.1 p.1.2.2.1 p.1.2.2.2.1 p.1.2.2.2.2) ⟨(x0₀, x1₀, x2₀, x3₀, x4₀), i0⟩ h0 fun ⟨(x0, x1, x2, x3, x4), hi⟩ k hk => round x0 x1 x2 x3 x4 hi k fun x0' x1' x2' x3' x4' hi' hl => hk ⟨(x0', x1', x2', x3', x4'), hi'⟩ hl
theorem Run.loop6 {X0 X1 X2 X3 X4 X5 : Type} (I : X0 → X1 → X2 → X3 → X4 → X5 → Prop) (GI : X0 → X1 → X2 → X3 → X4 → X5 → Env) (SI : X0 → X1 → X2 → X3 → X4 → X5 → List HProp) (μ : X0 → X1 → X2 → X3 → X4 → X5 → Nat) {c : Code} (x0₀ : X0) (x1₀ : X1) (x2₀ : X2) (x3₀ : X3) (x4₀ : X4) (x5₀ : X5) (i0 : I x0₀ x1₀ x2₀ x3₀ x4₀ x5₀) (h0 : ∀ Φ, J N (GI x0₀ x1₀ x2₀ x3₀ x4₀ x5₀) (SI x0₀ x1₀ x2₀ x3₀ x4₀ x5₀) F Φ → J N G S F Φ)
   (round : ∀ (x0 : X0) (x1 : X1) (x2 : X2) (x3 : X3) (x4 : X4) (x5 : X5), I x0 x1 x2 x3 x4 x5 → ∀ k : Act → World → Prop, (∀ (x0' : X0) (x1' : X1) (x2' : X2) (x3' : X3) (x4' : X4) (x5' : X5), I x0' x1' x2' x3' x4' x5' → μ x0' x1' x2' x3' x4' x5' < μ x0 x1 x2 x3 x4 x5 → J N (GI x0' x1' x2' x3' x4' x5') (SI x0' x1' x2' x3' x4' x5') F k) → Run P N c (K.setN k) (GI x0 x1 x2 x3 x4 x5) (SI x0 x1 x2 x3 x4 x5) F) : Run P N (.loop c) K G S F :=
 Run.loop (X := { p : X0 × X1 × X2 × X3 × X4 × X5 // I p.1 p.2.1 p.2.2.1 p.2.2.2.1 p.2.2.2.2.1 p.2.2.2.2.2 }) (fun p => GI p.1.1 p.1.2.1 p.1.2.2.1 p.1.2.2.2.1 p.1.2.2.2.2.1 p.1.2.2.2.2.2) (fun p => SI p.1.1 p.1.2.1 p.1.2.2.1 p.1.2.2.2.1 p.1.2.2.2.2.1 p.1.2.2.2.2.2) (fun p => μ p.1.1 p.1.2.1 p.1.2.2.1 p.1.2.2.2.1 p.1.2.2.2.2.1 p.1.2.2.2.2.2) ⟨(x0₀, x1₀, x2₀, x3₀, x4₀, x5₀), i0⟩ h0 fun ⟨(x0, x1, x2, x3, x4, x5), hi⟩ k hk => round x0 x1 x2 x3 x4 x5 hi k fun x0' x1' x2' x3' x4' x5' hi' hl => hk ⟨(x0', x1', x2', x3', x4', x5'), hi'⟩ hl
end
theorem EF.storeA {P : Program} {N : Nat} {G : Env} {S : List HProp} {F : Fr} {o : Oper} {t : TypeId} {x y : Operand} {b off n : Nat} {s l l' : List Value} {ty : TypeId} {C : List Value → List HProp} (ho : o.op = .store t x y) (hx : opv G x = some (.pointer (some ⟨b, off, none⟩))) (hy : opv G y = some (.agg s.toArray))
 (hz : Sz P t n) [u : UpdBlk b S l ty C] (hs : SetL l off n s l') (hv : ∀ u ∈ s, Value.cellB u = true) : EF P N G S F o fun _ S2 => S2 = C l' := EF.store ho hx hy hz hs hv
end Slb
