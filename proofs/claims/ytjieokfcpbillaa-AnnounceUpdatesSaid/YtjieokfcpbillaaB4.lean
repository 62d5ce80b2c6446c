/- Base 4: the operations that compute, read, write, and make memory. -/
import Derived.Test.YtjieokfcpbillaaB3
import Derived.WalkKit
import Derived.IntWalk
namespace Slb
open Go

/-- A type's cells. -/
def Sz (P : Program) (t : TypeId) (k : Nat) : Prop := ∀ w, (Go.sizeOf t).run P w = .ok k w
section quiet
variable {P : Program} {N : Nat} {G : Env} {S : List HProp} {F : Fr} {o : Oper}
theorem QP.move {x : Operand} {v : Value} (ho : o.op = .move x) (hv : opv G x = some v) : QP P N G S F o v := fun a w s w' => by
  unfold execOp; simp [ho, s.eval hv]
theorem QP.assign {x : Operand} {v : Value} (ho : o.op = .assign x) (hv : opv G x = some v) : QP P N G S F o v := fun a w s w' => by
  unfold execOp; simp [ho, s.eval hv]
theorem QP.pick_t {c x y : Operand} {v : Value} (ho : o.op = .pick c x y) (hc : opv G c = some (.bool true)) (hv : opv G x = some v) : QP P N G S F o v := fun a w s w' => by
  unfold execOp; simp [ho, s.eval hc, s.eval hv, asBool]
theorem QP.pick_f {c x y : Operand} {v : Value} (ho : o.op = .pick c x y) (hc : opv G c = some (.bool false)) (hv : opv G y = some v) : QP P N G S F o v := fun a w s w' => by
  unfold execOp; simp [ho, s.eval hc, s.eval hv, asBool]
/-- A field's place. -/
def FieldA (P : Program) (s : TypeId) (f n : Nat) : Prop := ∀ (a : Addr) (w : World), (Instr.fieldAt s (.pointer (some a)) f).run P w = .ok (.pointer (some (a.add n))) w
theorem add_lit (b o n : Nat) : Addr.add ⟨b, o, none⟩ n = ⟨b, o + n, none⟩ := by unfold Addr.add; split <;> simp_all
theorem QP.fieldAddr {t : TypeId} {x : Operand} {f n b off : Nat} (ho : o.op = .fieldAddr t x f) (hx : opv G x = some (.pointer (some ⟨b, off, none⟩))) (hf : FieldA P t f n) :
    QP P N G S F o (.pointer (some ⟨b, off + n, none⟩)) := fun a w s w' => by
  have hf' := hf ⟨b, off, none⟩ w'
  unfold execOp; simp [ho, s.eval hx, hf', add_lit]
theorem QP.nilCheck {x : Operand} {a : Addr} (ho : o.op = .nilCheck x) (hx : opv G x = some (.pointer (some a))) : QP P N G S F o (.pointer (some a)) := fun a w s w' => by
  unfold execOp; simp [ho, s.eval hx]
theorem QP.extract {x : Operand} {vs : Array Value} {i : Nat} {v : Value} (ho : o.op = .extract x i) (hx : opv G x = some (.tuple vs)) (hv : vs[i]? = some v) : QP P N G S F o v := fun a w s w' => by
  unfold execOp; simp [ho, s.eval hx, Instr.extract, hv]
theorem QP.not {t : TypeId} {x : Operand} {b : Bool} (ho : o.op = .unOp .not t x) (hx : opv G x = some (.bool b)) : QP P N G S F o (.bool !b) := fun a w s w' => by
  unfold execOp; simp [ho, s.eval hx, Op.unary]
theorem QP.neg {t : TypeId} {x : Operand} {k : IntKind} {n : Int} (ho : o.op = .unOp .neg t x) (hx : opv G x = some (.int k n)) : QP P N G S F o (.int k (k.wrap (-n))) := fun a w s w' => by
  unfold execOp; simp [ho, s.eval hx, Op.unary, Op.intArith]
section ints
variable {t t' : TypeId} {x y : Operand} {k : IntKind} {m n : Int}
theorem QP.add (ho : o.op = .binOp .add t x y t') (hx : opv G x = some (.int k m)) (hy : opv G y = some (.int k n)) : QP P N G S F o (.int k (k.wrap (m + n))) := fun a w s w' => by
  unfold execOp; simp [ho, s.eval hx, s.eval hy, eqGuard_at_int, binOp, Op.intArith]
theorem QP.sub (ho : o.op = .binOp .sub t x y t') (hx : opv G x = some (.int k m)) (hy : opv G y = some (.int k n)) : QP P N G S F o (.int k (k.wrap (m - n))) := fun a w s w' => by
  unfold execOp; simp [ho, s.eval hx, s.eval hy, eqGuard_at_int, binOp, Op.intArith]
theorem QP.mul (ho : o.op = .binOp .mul t x y t') (hx : opv G x = some (.int k m)) (hy : opv G y = some (.int k n)) : QP P N G S F o (.int k (k.wrap (m * n))) := fun a w s w' => by
  unfold execOp; simp [ho, s.eval hx, s.eval hy, eqGuard_at_int, binOp, Op.intArith]
theorem wrap_i64 {n : Int} (h1 : -9223372036854775808 ≤ n) (h2 : n < 9223372036854775808) : IntKind.i64.wrap n = n := by
  exact Go.IntWalk.i64_in n (by omega)
theorem QP.add64 (ho : o.op = .binOp .add t x y t') (hx : opv G x = some (.int .i64 m)) (hy : opv G y = some (.int .i64 n)) (h1 : -9223372036854775808 ≤ m + n) (h2 : m + n < 9223372036854775808) : QP P N G S F o (.int .i64 (m + n)) := by
  have := QP.add (P := P) (N := N) (S := S) (F := F) ho hx hy
  rwa [wrap_i64 h1 h2] at this
theorem QP.sub64 (ho : o.op = .binOp .sub t x y t') (hx : opv G x = some (.int .i64 m)) (hy : opv G y = some (.int .i64 n)) (h1 : -9223372036854775808 ≤ m - n) (h2 : m - n < 9223372036854775808) : QP P N G S F o (.int .i64 (m - n)) := by
  have := QP.sub (P := P) (N := N) (S := S) (F := F) ho hx hy
  rwa [wrap_i64 h1 h2] at this
theorem QP.lss (ho : o.op = .binOp .lss t x y t') (hx : opv G x = some (.int k m)) (hy : opv G y = some (.int k n)) : QP P N G S F o (.bool (decide (m < n))) := fun a w s w' => by
  unfold execOp; simp [ho, s.eval hx, s.eval hy, eqGuard_at_int, binOp, Op.intCmp]
theorem QP.leq (ho : o.op = .binOp .leq t x y t') (hx : opv G x = some (.int k m)) (hy : opv G y = some (.int k n)) : QP P N G S F o (.bool (decide (m ≤ n))) := fun a w s w' => by
  unfold execOp; simp [ho, s.eval hx, s.eval hy, eqGuard_at_int, binOp, Op.intCmp]
theorem QP.gtr (ho : o.op = .binOp .gtr t x y t') (hx : opv G x = some (.int k m)) (hy : opv G y = some (.int k n)) : QP P N G S F o (.bool (decide (n < m))) := fun a w s w' => by
  unfold execOp; simp [ho, s.eval hx, s.eval hy, eqGuard_at_int, binOp, Op.intCmp]
theorem QP.geq (ho : o.op = .binOp .geq t x y t') (hx : opv G x = some (.int k m)) (hy : opv G y = some (.int k n)) : QP P N G S F o (.bool (decide (n ≤ m))) := fun a w s w' => by
  unfold execOp; simp [ho, s.eval hx, s.eval hy, eqGuard_at_int, binOp, Op.intCmp]
theorem QP.eql (ho : o.op = .binOp .eql t x y t') (hx : opv G x = some (.int k m)) (hy : opv G y = some (.int k n)) : QP P N G S F o (.bool (decide (m = n))) := fun a w s w' => by
  unfold execOp; simp [ho, s.eval hx, s.eval hy, eqGuard_at_int, binOp, Op.intCmp]; by_cases h : m = n <;> simp [h]
theorem QP.neq (ho : o.op = .binOp .neq t x y t') (hx : opv G x = some (.int k m)) (hy : opv G y = some (.int k n)) : QP P N G S F o (.bool (decide (m ≠ n))) := fun a w s w' => by
  unfold execOp; simp [ho, s.eval hx, s.eval hy, eqGuard_at_int, binOp, Op.intCmp]; by_cases h : m = n <;> simp [h]
theorem QP.conv {dst : IntKind} (ho : o.op = .convert t t' x) (hx : opv G x = some (.int k m)) (h1 : P.underlying t = some (.int k)) (h2 : P.underlying t' = some (.int dst)) : QP P N G S F o (.int dst (dst.wrap m)) := fun a w s w' => by
  unfold execOp; simp [ho, s.eval hx, convert, run_underlying h1, run_underlying h2, Conv.intToInt]
end ints
section ptrs
variable {t t' : TypeId} {x y : Operand} {e : TypeId}
theorem pointee_of (ht : P.underlying t = some (.pointer e)) : P.underlying t = some (.pointer (P.pointee t)) := by
  unfold Program.pointee; rw [ht]
theorem QP.ptr_eq_nil {p : Option Addr} (ho : o.op = .binOp .eql t x y t') (hx : opv G x = some (.pointer p)) (hy : opv G y = some (.pointer none)) (ht : P.underlying t = some (.pointer e)) : QP P N G S F o (.bool p.isNone) := fun a w s w' => by
  unfold execOp; simp only [ho, s.eval hx, s.eval hy, eqGuard_at_pointer]; simp [run_eql_pointer_nil w' t p (pointee_of ht)]
theorem QP.ptr_ne_nil {p : Option Addr} (ho : o.op = .binOp .neq t x y t') (hx : opv G x = some (.pointer p)) (hy : opv G y = some (.pointer none)) (ht : P.underlying t = some (.pointer e)) : QP P N G S F o (.bool p.isSome) := fun a w s w' => by
  unfold execOp; simp only [ho, s.eval hx, s.eval hy, eqGuard_at_pointer]; simp [run_neq_pointer_nil w' t p (pointee_of ht)]
end ptrs
section slices
variable {t e : TypeId} {x y : Operand}
theorem QP.len {ts : Array TypeId} {b : Option Addr} {n c : Nat} (ho : o.op = .call ⟨.builtin .len, #[x], ts⟩) (hx : opv G x = some (.slice b n c)) (ht : ts[0]? = some t) (hu : P.underlying t = some (.slice e)) :
    QP P N G S F o (.int .i64 n) := fun a w s w' => by
  unfold execOp; simp [ho, s.eval hx, resolve, invoke, builtin, Builtin.len_, ht, run_underlying hu, goInt]
theorem QP.lenS {ts : Array TypeId} {b : ByteArray} (ho : o.op = .call ⟨.builtin .len, #[x], ts⟩) (hx : opv G x = some (.string b)) (ht : ts[0]? = some t) (hu : P.underlying t = some .string) :
    QP P N G S F o (.int .i64 b.size) := fun a w s w' => by
  unfold execOp; simp [ho, s.eval hx, resolve, invoke, builtin, Builtin.len_, ht, run_underlying hu, goInt]
theorem QP.indexAddr {k : IntKind} {i : Int} {b off n c z : Nat} (ho : o.op = .indexAddr t x y) (hx : opv G x = some (.slice (some ⟨b, off, none⟩) n c)) (hy : opv G y = some (.int k i))
    (hu : P.underlying t = some (.slice e)) (hz : Sz P e z) (h0 : 0 ≤ i) (h1 : i < n) : QP P N G S F o (.pointer (some ⟨b, off + i.toNat * z, none⟩)) := fun a w s w' => by
  unfold execOp; simp [ho, s.eval hx, s.eval hy, Instr.indexAt, asIntOf, run_underlying hu, h0, h1, hz w', add_lit]
theorem QP.indexArr {k : IntKind} {i : Int} {b off n z : Nat} (ho : o.op = .indexAddr t x y) (hx : opv G x = some (.pointer (some ⟨b, off, none⟩))) (hy : opv G y = some (.int k i))
    (hu : P.underlying t = some (.array n e)) (hz : Sz P e z) (h0 : 0 ≤ i) (h1 : i < n) : QP P N G S F o (.pointer (some ⟨b, off + i.toNat * z, none⟩)) := fun a w s w' => by
  unfold execOp; simp [ho, s.eval hx, s.eval hy, Instr.indexAt, asIntOf, Instr.sureAddr, run_underlying hu, h0, h1, hz w', add_lit]
/-- The whole of an array. -/
theorem QP.sliceArr {b off n z : Nat} (ho : o.op = .slice t x none none none) (hx : opv G x = some (.pointer (some ⟨b, off, none⟩))) (hu : P.underlying t = some (.array n e)) (hz : Sz P e z) :
    QP P N G S F o (.slice (some ⟨b, off, none⟩) n n) := fun a w s w' => by
  unfold execOp
  simp [ho, s.eval hx, Instr.sliceAt, Instr.sureAddr, Instr.sliceBounds, run_underlying hu, hz w']
  by_cases h : n = 0 <;> simp [h, add_lit]
end slices
end quiet

/-- Cells off .. off + n of a row. -/
def SubL (l : List Value) (off n : Nat) (s : List Value) : Prop := ∃ pre post, l = pre ++ s ++ post ∧ pre.length = off ∧ s.length = n
theorem SubL.all (l : List Value) : SubL l 0 l.length l := ⟨[], [], by simp, rfl, rfl⟩
theorem SubL.trans {l s u : List Value} {a b n m : Nat} (h : SubL l a n s) (k : SubL s b m u) : SubL l (a + b) m u := by
  obtain ⟨p1, q1, rfl, rfl, rfl⟩ := h
  obtain ⟨p2, q2, rfl, rfl, rfl⟩ := k
  exact ⟨p1 ++ p2, q2 ++ q1, by simp, by simp, rfl⟩
theorem SubL.get {l s : List Value} {off n i : Nat} (h : SubL l off n s) (hi : i < n) : l[off + i]? = s[i]? := by
  obtain ⟨p, q, rfl, rfl, rfl⟩ := h
  rw [List.append_assoc, List.getElem?_append_right (by omega), List.getElem?_append_left (by omega)]
  congr 1; omega
theorem SubL.left {l s m : List Value} {off n : Nat} (h : SubL l off n s) : SubL (l ++ m) off n s := by
  obtain ⟨p, q, rfl, rfl, rfl⟩ := h
  exact ⟨p, q ++ m, by simp, rfl, rfl⟩
theorem SubL.right {l s m : List Value} {off n k : Nat} (hm : m.length = k) (h : SubL l off n s) : SubL (m ++ l) (k + off) n s := by
  obtain ⟨p, q, rfl, rfl, rfl⟩ := h
  exact ⟨m ++ p, q, by simp, by simp [hm], rfl⟩
/-- The same with other cells there. -/
def SetL (l : List Value) (off n : Nat) (s l' : List Value) : Prop := ∃ pre mid post, l = pre ++ mid ++ post ∧ l' = pre ++ s ++ post ∧ pre.length = off ∧ mid.length = n ∧ s.length = n
theorem SetL.all {l s : List Value} {n : Nat} (h1 : l.length = n) (h2 : s.length = n) : SetL l 0 n s s := ⟨[], l, [], by simp, by simp, rfl, h1, h2⟩
theorem SetL.trans {l u u' s l' : List Value} {a b n m : Nat} (h : SetL l a n u' l') (hu : SubL l a n u) (k : SetL u b m s u') : SetL l (a + b) m s l' := by
  obtain ⟨p1, m1, q1, rfl, rfl, rfl, hm, hu'⟩ := h
  obtain ⟨p2, m2, q2, rfl, rfl, rfl, rfl, hs⟩ := k
  obtain ⟨p3, q3, e, hp, hl⟩ := hu
  have h1 := List.append_inj (show p1 ++ (m1 ++ q1) = p3 ++ (p2 ++ m2 ++ q2 ++ q3) by simpa using e) hp.symm
  have h2 := List.append_inj h1.2 (hm.trans hl.symm)
  have e1 := h2.1
  subst e1
  exact ⟨p1 ++ p2, m2, q2 ++ q1, by simp, by simp, by simp, rfl, hs⟩
theorem SetL.left {l s l' m : List Value} {off n : Nat} (h : SetL l off n s l') : SetL (l ++ m) off n s (l' ++ m) := by
  obtain ⟨p, x, q, rfl, rfl, rfl, h1, h2⟩ := h
  exact ⟨p, x, q ++ m, by simp, by simp, rfl, h1, h2⟩
theorem SetL.right {l s l' m : List Value} {off n k : Nat} (hm : m.length = k) (h : SetL l off n s l') : SetL (m ++ l) (k + off) n s (m ++ l') := by
  obtain ⟨p, x, q, rfl, rfl, rfl, h1, h2⟩ := h
  exact ⟨m ++ p, x, q, by simp, by simp, by simp [hm], h1, h2⟩

theorem SubL.one {v : Value} : SubL [v] 0 1 [v] := SubL.all [v]
theorem SetL.one {v u : Value} : SetL [v] 0 1 [u] [u] := SetL.all rfl rfl
/-- A type of several cells, of one. -/
structure Agg (P : Program) (t : TypeId) (k : Nat) : Prop where
  agg : ∀ w, (isAgg t).run P w = .ok true w
  size : Sz P t k
structure Sca (P : Program) (t : TypeId) : Prop where
  agg : ∀ w, (isAgg t).run P w = .ok false w
  size : Sz P t 1

theorem cell_at {w : World} {b off : Nat} {l : List Value} {ty : TypeId} {fz : Nat × Nat} (h : w.heap[b]? = some (.cells l.toArray ty fz)) : w.cell? ⟨b, off, none⟩ = l[off]? := by
  unfold World.cell?; simp [h]
theorem run_loadCells {P : Program} {w : World} {b : Nat} {l : List Value} {ty : TypeId} {fz : Nat × Nat} (h : w.heap[b]? = some (.cells l.toArray ty fz)) {off : Nat} (s : List Value) :
    ∀ (r : List Value) (i : Nat) (acc : Array Value), (∀ j, j < r.length → l[off + (i + j)]? = r[j]?) → (loadCellsFrom ⟨b, off, none⟩ i r.length acc).run P w = .ok (acc ++ r.toArray) w := by
  have := s
  intro r
  induction r with
  | nil => intro i acc _; simp [loadCellsFrom]
  | cons v r ih =>
    intro i acc hr
    have h0 := hr 0 (by simp)
    simp only [Nat.add_zero, List.getElem?_cons_zero] at h0
    simp only [List.length_cons, loadCellsFrom, Sem.run_bind]
    rw [add_lit]
    have : (load ⟨b, off + i, none⟩).run P w = .ok v w := by
      unfold load
      simp only [Sem.run, cell_at h, h0]
    rw [this]
    simp only [Result.andThen_ok]
    rw [ih (i + 1) (acc.push v) (fun j hj => by
      have := hr (j + 1) (by simp; omega)
      rw [show i + 1 + j = i + (j + 1) by omega]
      simpa using this)]
    simp
theorem run_loadAgg {P : Program} {t : TypeId} {k : Nat} (ht : Agg P t k) {w : World} {b off : Nat} {l s : List Value} {ty : TypeId} {fz : Nat × Nat} (h : w.heap[b]? = some (.cells l.toArray ty fz)) (hs : SubL l off k s) :
    (loadVar t ⟨b, off, none⟩).run P w = .ok (.agg s.toArray) w := by
  unfold loadVar
  simp only [Sem.run_bind, ht.agg w, Result.andThen_ok, if_true, ht.size w]
  have hk : s.length = k := hs.choose_spec.choose_spec.2.2
  have := run_loadCells (P := P) h (off := off) [] s 0 #[] (fun j hj => by rw [Nat.zero_add]; exact hs.get (by omega))
  unfold loadCells
  rw [hk] at this
  rw [this]
  simp
theorem run_loadSca {P : Program} {t : TypeId} (ht : Sca P t) {w : World} {b off : Nat} {l : List Value} {v : Value} {ty : TypeId} {fz : Nat × Nat} (h : w.heap[b]? = some (.cells l.toArray ty fz)) (hs : SubL l off 1 [v]) :
    (loadVar t ⟨b, off, none⟩).run P w = .ok v w := by
  unfold loadVar
  simp only [Sem.run_bind, ht.agg w, Result.andThen_ok]
  have h0 := hs.get (i := 0) (by omega)
  unfold load
  simp only [Bool.false_eq_true, if_false, Sem.run, cell_at h]
  rw [show l[off]? = some v by simpa using h0]

/-- The row that block b is. -/
def Rd (S : List HProp) (F : Fr) (b : Nat) (l : List Value) : Prop := (∃ ty, blk b l ty ∈ S) ∨ ∃ ty fz, F.h b = some (.cells l.toArray ty fz)
theorem Rd.own {S : List HProp} {F : Fr} {b : Nat} {l : List Value} {ty : TypeId} (h : blk b l ty ∈ S) : Rd S F b l := .inl ⟨ty, h⟩
theorem Rd.fr {S : List HProp} {F : Fr} {b : Nat} {l : List Value} {ty : TypeId} {fz : Nat × Nat} (h : F.h b = some (.cells l.toArray ty fz)) : Rd S F b l := .inr ⟨ty, fz, h⟩
theorem mem_perm {A : HProp} {S : List HProp} (h : A ∈ S) : ∃ r, S.Perm (A :: r) := by
  induction S with
  | nil => cases h
  | cons B S ih =>
    rcases List.mem_cons.1 h with rfl | h
    · exact ⟨S, List.Perm.refl _⟩
    · obtain ⟨r, hr⟩ := ih h
      exact ⟨B :: r, (List.Perm.cons _ hr).trans (List.Perm.swap _ _ _)⟩
theorem Sat.mem {S : List HProp} {F : Fr} {w : World} {b : Nat} {o : Obj} (s : Sat S F w) (h : pts b o ∈ S) : w.heap[b]? = some o := by
  obtain ⟨r, hr⟩ := mem_perm h
  exact (s.perm hr).at
theorem Rd.at {S : List HProp} {F : Fr} {b : Nat} {l : List Value} {w : World} (h : Rd S F b l) (s : Sat S F w) : ∃ ty fz, w.heap[b]? = some (.cells l.toArray ty fz) := by
  rcases h with ⟨ty, hm⟩ | ⟨ty, fz, hf⟩
  · exact ⟨ty, _, s.mem hm⟩
  · exact ⟨ty, fz, s.frame hf⟩

/-- Block b is an atom of S: found by instances. -/
class HasBlk (b : Nat) (S : List HProp) (l : outParam (List Value)) (ty : outParam TypeId) : Prop where
  mem : blk b l ty ∈ S
instance HasBlk.head {b : Nat} {S : List HProp} {l : List Value} {ty : TypeId} : HasBlk b (blk b l ty :: S) l ty := ⟨List.mem_cons_self⟩
instance (priority := low) HasBlk.tail {b : Nat} {A : HProp} {S : List HProp} {l : List Value} {ty : TypeId} [h : HasBlk b S l ty] : HasBlk b (A :: S) l ty := ⟨List.mem_cons_of_mem _ h.mem⟩
class UpdBlk (b : Nat) (S : List HProp) (l : outParam (List Value)) (ty : outParam TypeId) (C : outParam (List Value → List HProp)) : Prop where
  upd : ∀ l', Upd S (blk b l ty) (blk b l' ty) (C l')
instance UpdBlk.head {b : Nat} {S : List HProp} {l : List Value} {ty : TypeId} : UpdBlk b (blk b l ty :: S) l ty (fun l' => blk b l' ty :: S) := ⟨fun _ => .head⟩
instance (priority := low) UpdBlk.tail {b : Nat} {A : HProp} {S : List HProp} {l : List Value} {ty : TypeId} {C : List Value → List HProp} [h : UpdBlk b S l ty C] : UpdBlk b (A :: S) l ty (fun l' => A :: C l') := ⟨fun l' => .tail (h.upd l')⟩
/-- Two lists behind one another. -/
class App (a b : List HProp) (c : outParam (List HProp)) : Prop where
  eq : a ++ b = c
instance App.nil {b : List HProp} : App [] b b := ⟨rfl⟩
instance App.cons {A : HProp} {a b c : List HProp} [h : App a b c] : App (A :: a) b (A :: c) := ⟨by rw [List.cons_append, h.eq]⟩
theorem J.app {N : Nat} {G : Env} {a b c : List HProp} {F : Fr} {Φ : Act → World → Prop} [h : App a b c] (j : J N G c F Φ) : J N G (a ++ b) F Φ := by rw [h.eq]; exact j
section reads
variable {P : Program} {N : Nat} {G : Env} {S : List HProp} {F : Fr} {o : Oper} {t : TypeId} {x : Operand} {b off : Nat} {l : List Value}
theorem QR.loadR {k : Nat} {s : List Value} (ho : o.op = .load t x) (hx : opv G x = some (.pointer (some ⟨b, off, none⟩))) (ht : Agg P t k) (hr : Rd S F b l) (hs : SubL l off k s) : QR P N G S F o (.agg s.toArray) := fun a w st => by
  obtain ⟨ty, fz, h⟩ := hr.at st.sat
  unfold execOp; simp [ho, st.eval hx, Instr.loadAt, Instr.sureAddr, run_loadAgg ht h hs]
theorem QR.load1R {v : Value} (ho : o.op = .load t x) (hx : opv G x = some (.pointer (some ⟨b, off, none⟩))) (ht : Sca P t) (hr : Rd S F b l) (hs : SubL l off 1 [v]) : QR P N G S F o v := fun a w st => by
  obtain ⟨ty, fz, h⟩ := hr.at st.sat
  unfold execOp; simp [ho, st.eval hx, Instr.loadAt, Instr.sureAddr, run_loadSca ht h hs]
theorem QR.load {k : Nat} {s : List Value} {ty : TypeId} (ho : o.op = .load t x) (hx : opv G x = some (.pointer (some ⟨b, off, none⟩))) (ht : Agg P t k) [hb : HasBlk b S l ty] (hs : SubL l off k s) : QR P N G S F o (.agg s.toArray) := QR.loadR ho hx ht (.own hb.mem) hs
theorem QR.load1 {v : Value} {ty : TypeId} (ho : o.op = .load t x) (hx : opv G x = some (.pointer (some ⟨b, off, none⟩))) (ht : Sca P t) [hb : HasBlk b S l ty] (hs : SubL l off 1 [v]) : QR P N G S F o v := QR.load1R ho hx ht (.own hb.mem) hs
theorem QR.loadF {k : Nat} {s : List Value} {ty : TypeId} {fz : Nat × Nat} (ho : o.op = .load t x) (hx : opv G x = some (.pointer (some ⟨b, off, none⟩))) (ht : Agg P t k) (hb : F.h b = some (.cells l.toArray ty fz)) (hs : SubL l off k s) : QR P N G S F o (.agg s.toArray) := QR.loadR ho hx ht (.fr hb) hs
theorem QR.load1F {v : Value} {ty : TypeId} {fz : Nat × Nat} (ho : o.op = .load t x) (hx : opv G x = some (.pointer (some ⟨b, off, none⟩))) (ht : Sca P t) (hb : F.h b = some (.cells l.toArray ty fz)) (hs : SubL l off 1 [v]) : QR P N G S F o v := QR.load1R ho hx ht (.fr hb) hs
end reads

/-- A value that fits a cell. -/
def Value.cellB : Value → Bool
  | .agg _ | .tuple _ => false
  | _ => true
theorem setCell_heap {w : World} {b off : Nat} {l : List Value} {ty : TypeId} {fz : Nat × Nat} (h : w.heap[b]? = some (.cells l.toArray ty fz)) (v : Value) :
    (w.setCell ⟨b, off, none⟩ v).heap[b]? = some (.cells (l.set off v).toArray ty fz) ∧ ∀ c, c ≠ b → (w.setCell ⟨b, off, none⟩ v).heap[c]? = w.heap[c]? := by
  obtain ⟨hlt, he⟩ := Array.getElem?_eq_some_iff.1 h
  unfold World.setCell
  constructor
  · simp only [Array.getElem?_modify, if_true, h]
    simp
  · intro c hc
    simp only [Array.getElem?_modify, if_neg (Ne.symm hc)]
theorem run_storeCells {P : Program} {b off : Nat} {ty : TypeId} : ∀ (s : List Value) (i : Nat) (w : World) (l : List Value), w.heap[b]? = some (.cells l.toArray ty (0, 0)) → off + i + s.length ≤ l.length → (∀ v ∈ s, Value.cellB v = true) →
    ∃ w', (storeCells ⟨b, off, none⟩ s i).run P w = .ok () w' ∧ w'.os = w.os ∧ w'.tape = w.tape ∧ (w'.output = w.output ∧ w.drawn ≤ w'.drawn) ∧
      w'.heap[b]? = some (.cells (l.take (off + i) ++ s ++ l.drop (off + i + s.length)).toArray ty (0, 0)) ∧ ∀ c, c ≠ b → w'.heap[c]? = w.heap[c]? := by
  intro s
  induction s with
  | nil => intro i w l h _ _; exact ⟨w, by simp [storeCells], rfl, rfl, ⟨rfl, Nat.le_refl _⟩, by simpa using h, fun _ _ => rfl⟩
  | cons v s ih =>
    intro i w l h hl hv
    simp only [List.length_cons] at hl
    have hcell : w.cell? ⟨b, off + i, none⟩ = some (l[off + i]'(by omega)) := by rw [cell_at h]; exact List.getElem?_eq_getElem _
    have hfz : w.frozen? ⟨b, off + i, none⟩ = false := by unfold World.frozen?; simp [h]
    have h1 : (store ⟨b, off + i, none⟩ v).run P w = .ok () (w.setCell ⟨b, off + i, none⟩ v) := by
      unfold store
      have := hv v List.mem_cons_self
      cases v <;> simp [Value.cellB] at this <;> simp [Sem.run, hcell, hfz]
    obtain ⟨hb, hc⟩ := setCell_heap (off := off + i) h v
    obtain ⟨w', e1, e2, e3, e4, e5, e6⟩ := ih (i + 1) _ _ hb (by simp; omega) (fun u hu => hv u (List.mem_cons_of_mem _ hu))
    refine ⟨w', ?_, e2, e3, e4, ?_, fun c hc' => (e6 c hc').trans (hc c hc')⟩
    · simp only [storeCells, Sem.run_bind, add_lit, h1, Result.andThen_ok]
      exact e1
    · rw [e5]
      congr 3
      have : off + i < l.length := by omega
      rw [show off + (i + 1) = off + i + 1 by omega, List.drop_set_of_lt (by omega)]
      rw [List.take_add_one, List.getElem?_set_self this]
      simp only [Option.toList_some, List.take_set_of_le (Nat.le_refl _), List.length_cons]
      rw [show off + i + (s.length + 1) = off + i + 1 + s.length by omega]
      simp

section effects
variable {P : Program} {N : Nat} {G : Env} {S : List HProp} {F : Fr} {o : Oper} {t : TypeId} {x y : Operand}
theorem estep_value {a : Act} {w w' : World} {v : Value} {next : Value → World → Prop} (h : (execOp a.eval o).run P w = .ok (.value v) w') (hn : next v w') : EStep P o a w next := by
  unfold EStep; rw [h]; exact hn
theorem estep_skip {a : Act} {w w' : World} {next : Value → World → Prop} (h : (execOp a.eval o).run P w = .ok .skip w') (hn : next undef w') : EStep P o a w next := by
  unfold EStep; rw [h]; exact hn
theorem EF.box {v : Value} (ho : o.op = .box t x) (hx : opv G x = some v) : EF P N G S F o fun u S' => ∃ b, u = .pointer (some ⟨b, 0, none⟩) ∧ S' = blk b v.cells.toList t :: S := fun a w st => by
  refine estep_value (v := .pointer (some ⟨w.heap.size, 0, none⟩)) (w' := { w with heap := w.heap.push (.cells v.cells t) }) ?_ ⟨_, ⟨_, rfl, rfl⟩, ?_⟩
  · unfold execOp; simp [ho, st.eval hx, Instr.box, newVar, newRow, newObj, Sem.run]
  · have := st.sat.new (.cells v.cells t)
    unfold blk; simpa using this
theorem EF.boxA {l : List Value} (ho : o.op = .box t x) (hx : opv G x = some (.agg l.toArray)) : EF P N G S F o fun u S' => ∃ b, u = .pointer (some ⟨b, 0, none⟩) ∧ S' = blk b l t :: S := EF.box ho hx
theorem EF.box1 {v : Value} (ho : o.op = .box t x) (hx : opv G x = some v) (hv : v.cells = #[v]) : EF P N G S F o fun u S' => ∃ b, u = .pointer (some ⟨b, 0, none⟩) ∧ S' = blk b [v] t :: S := by
  have := EF.box (P := P) (N := N) (S := S) (F := F) ho hx
  rwa [hv] at this
/-- A type's zero value. -/
def Zero (P : Program) (t : TypeId) (v : Value) : Prop := ∀ w, (zeroValue t).run P w = .ok v w
theorem EF.alloc {v : Value} (ho : o.op = .alloc t) (hz : Zero P t v) : EF P N G S F o fun u S' => ∃ b, u = .pointer (some ⟨b, 0, none⟩) ∧ S' = blk b v.cells.toList t :: S := fun a w st => by
  refine estep_value (v := .pointer (some ⟨w.heap.size, 0, none⟩)) (w' := { w with heap := w.heap.push (.cells v.cells t) }) ?_ ⟨_, ⟨_, rfl, rfl⟩, ?_⟩
  · have := hz w
    unfold execOp; simp [ho, Instr.alloc, this, newVar, newRow, newObj, Sem.run]
  · have := st.sat.new (.cells v.cells t)
    unfold blk; simpa using this
theorem EF.allocA {l : List Value} (ho : o.op = .alloc t) (hz : Zero P t (.agg l.toArray)) : EF P N G S F o fun u S' => ∃ b, u = .pointer (some ⟨b, 0, none⟩) ∧ S' = blk b l t :: S := EF.alloc ho hz
theorem EF.alloc1 {v : Value} (ho : o.op = .alloc t) (hz : Zero P t v) (hv : v.cells = #[v]) : EF P N G S F o fun u S' => ∃ b, u = .pointer (some ⟨b, 0, none⟩) ∧ S' = blk b [v] t :: S := by
  have := EF.alloc (P := P) (N := N) (G := G) (S := S) (F := F) ho hz
  rwa [hv] at this
theorem Sat.upd {A B : HProp} {S S' : List HProp} {F : Fr} {w : World} (u : Upd S A B S') (s : Sat S F w) : ∃ r, Sat (A :: r) F w ∧ ∀ w', Sat (B :: r) F w' → Sat S' F w' := by
  obtain ⟨r, h1, h2⟩ := u.perm
  exact ⟨r, s.perm h1, fun w' s' => s'.perm h2.symm⟩
theorem EF.storeU {b off n : Nat} {v : Value} {l l' : List Value} {ty : TypeId} {S' : List HProp} (ho : o.op = .store t x y) (hx : opv G x = some (.pointer (some ⟨b, off, none⟩))) (hy : opv G y = some v)
    (hz : Sz P t n) (hs : SetL l off n v.cells.toList l') (hv : ∀ u ∈ v.cells.toList, Value.cellB u = true) (u : Upd S (blk b l ty) (blk b l' ty) S') :
    EF P N G S F o fun _ S2 => S2 = S' := fun a w st => by
  obtain ⟨r, s1, back⟩ := Sat.upd u st.sat
  have hb : w.heap[b]? = some (.cells l.toArray ty (0, 0)) := s1.at
  obtain ⟨pre, mid, post, rfl, rfl, rfl, rfl, hlen⟩ := hs
  obtain ⟨w', e1, e2, e3, e4, e5, e6⟩ := run_storeCells (P := P) (off := pre.length) v.cells.toList 0 w _ hb (by simp; simp at hlen; omega) hv
  refine estep_skip (w' := w') ?_ ⟨S', rfl, back _ (s1.set _ e2 e3 e4 ?_ e6)⟩
  · have hsz : v.cells.size = mid.length := by simpa using hlen
    unfold execOp; simp [ho, st.eval hx, st.eval hy, Instr.storeAt, Instr.sureAddr, storeVar, hz w, hsz, e1]
  · rw [e5]
    congr 3
    rw [hlen]
    simp
theorem EF.store {b off n : Nat} {v : Value} {l l' : List Value} {ty : TypeId} {C : List Value → List HProp} (ho : o.op = .store t x y) (hx : opv G x = some (.pointer (some ⟨b, off, none⟩))) (hy : opv G y = some v)
    (hz : Sz P t n) [u : UpdBlk b S l ty C] (hs : SetL l off n v.cells.toList l') (hv : ∀ u ∈ v.cells.toList, Value.cellB u = true) :
    EF P N G S F o fun _ S2 => S2 = C l' := EF.storeU ho hx hy hz hs hv (u.upd l')
end effects
end Slb
