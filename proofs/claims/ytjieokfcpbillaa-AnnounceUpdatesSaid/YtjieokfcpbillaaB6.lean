/- Base 6: comparing bytes; == on structs and arrays; keys of maps. -/
import Derived.Test.YtjieokfcpbillaaB5
import Derived.Lib.Bytealg
namespace Slb
open Go

/-! ### Bytes that are compared -/
theorem run_loadBytes {P : Program} {w : World} {b : Nat} {l : List Value} {ty : TypeId} {fz : Nat × Nat} (h : w.heap[b]? = some (.cells l.toArray ty fz)) :
    ∀ (r : List UInt8) (off : Nat) (acc : ByteArray), (∀ j, j < r.length → l[off + j]? = (bytesV r)[j]?) → (Extern.Bytes.loadBytes ⟨b, off, none⟩ r.length acc).run P w = .ok ⟨acc.data ++ r.toArray⟩ w := by
  intro r
  induction r with
  | nil => intro off acc _; simp [Extern.Bytes.loadBytes]
  | cons c r ih =>
    intro off acc hr
    have h0 := hr 0 (by simp)
    simp only [Nat.add_zero, bytesV, List.map_cons, List.getElem?_cons_zero] at h0
    simp only [List.length_cons, Extern.Bytes.loadBytes, Sem.run_bind]
    have : (load ⟨b, off, none⟩).run P w = .ok (byteV c) w := by
      unfold load
      simp only [Sem.run, cell_at h, h0]
    rw [this]
    simp only [Result.andThen_ok, byteV, add_lit]
    rw [ih (off + 1) _ (fun j hj => by
      have := hr (j + 1) (by simp; omega)
      rw [show off + 1 + j = off + (j + 1) by omega, this]
      simp [bytesV])]
    simp [ByteArray.push]
theorem run_bytesOf {P : Program} {w : World} {b off : Nat} {l : List Value} {ty : TypeId} {fz : Nat × Nat} (h : w.heap[b]? = some (.cells l.toArray ty fz)) {x : List UInt8} {c : Nat} (hs : SubL l off x.length (bytesV x)) :
    (Extern.Bytes.bytesOf (.slice (some ⟨b, off, none⟩) x.length c)).run P w = .ok ⟨x.toArray⟩ w := by
  unfold Extern.Bytes.bytesOf
  rw [run_loadBytes h x off .empty (fun j hj => hs.get hj)]
  simp [ByteArray.empty, ByteArray.emptyWithCapacity]
  rfl
/-- The library's row for bytes that are compared. -/
def CmpRow (P : Program) (f : FuncId) : Prop := ∀ (args : Array Value) (w : World), (callFunc f args).run P w = (do pure (.value (← Extern.BytealgCompare.compare args)) : Sem Next).run P w
section
variable {P : Program} {N : Nat} {G : Env} {S : List HProp} {F : Fr} {o : Oper}
/-- A slice of bytes: in memory, or nil. -/
def BytesAt (S : List HProp) (F : Fr) (v : Value) (x : List UInt8) : Prop :=
  (v = .slice none 0 0 ∧ x = []) ∨ ∃ b off c l, v = .slice (some ⟨b, off, none⟩) x.length c ∧ Rd S F b l ∧ SubL l off x.length (bytesV x)
theorem BytesAt.run {v : Value} {x : List UInt8} (h : BytesAt S F v x) {w : World} (s : Sat S F w) : (Extern.Bytes.bytesOf v).run P w = .ok ⟨x.toArray⟩ w := by
  rcases h with ⟨rfl, rfl⟩ | ⟨b, off, c, l, rfl, hr, hs⟩
  · rfl
  · obtain ⟨ty, fz, hh⟩ := hr.at s
    exact run_bytesOf hh hs
theorem QR.compare {f : FuncId} {ts : Array TypeId} {x y : Operand} {u v : Value} {a b : List UInt8} (ho : o.op = .call ⟨.value (.func f), #[x, y], ts⟩) (hf : CmpRow P f) (hx : opv G x = some u) (hy : opv G y = some v)
    (ha : BytesAt S F u a) (hb : BytesAt S F v b) : QR P N G S F o (.int .i64 (Lib.compareBytes a b)) := fun ac w st => by
  have hmap : #[x, y].map ac.eval = #[u, v] := by simp [st.eval hx, st.eval hy]
  unfold execOp
  simp only [ho, resolve, hmap]
  show (callFunc f (#[] ++ #[u, v] ++ #[])).run P w = _
  rw [hf]
  show (do pure (Next.value (← Extern.BytealgCompare.compare #[u, v])) : Sem Next).run P w = _
  have hc : Extern.BytealgCompare.compare #[u, v] = (do pure (goInt (Extern.BytealgCompare.cmp (← Extern.Bytes.bytesOf u) (← Extern.Bytes.bytesOf v)))) := rfl
  rw [hc]
  simp only [Sem.run_bind, ha.run st.sat, hb.run st.sat, Result.andThen_ok, Sem.run_pure, goInt]
  rw [Lib.cmp_eq]
end

/-! ### == on structs and arrays -/
/-- == of two rows of cells of type t. -/
def EqA (P : Program) (d : Nat) (t : TypeId) (a b : List Value) (r : Bool) : Prop := ∀ w, (Op.equalIn d t (.agg a.toArray) (.agg b.toArray)).run P w = .ok r w
/-- The same of a part: of several cells, of one. -/
def EqP (P : Program) (d : Nat) (t : TypeId) (a b : List Value) (r : Bool) : Prop :=
  (Agg P t a.length ∧ b.length = a.length ∧ EqA P d t a b r) ∨ (∃ u v, a = [u] ∧ b = [v] ∧ Sca P t ∧ ∀ w, (Op.equalIn d t u v).run P w = .ok r w)
theorem run_part {P : Program} {t : TypeId} {k : Nat} (ht : Agg P t k) (w : World) {l s : List Value} {off : Nat} (h : SubL l off k s) : (part t l.toArray off).run P w = .ok (.agg s.toArray) w := by
  unfold part
  simp only [Sem.run_bind, ht.agg w, Result.andThen_ok, if_true, ht.size w, Sem.run_pure]
  obtain ⟨p, q, rfl, rfl, rfl⟩ := h
  congr 2
  simp [List.drop_append, List.take_append]
theorem run_part1 {P : Program} {t : TypeId} (ht : Sca P t) (w : World) {l : List Value} {v : Value} {off : Nat} (h : SubL l off 1 [v]) : (part t l.toArray off).run P w = .ok v w := by
  unfold part
  have h0 := h.get (i := 0) (by omega)
  simp only [Sem.run_bind, ht.agg w, Result.andThen_ok, Bool.false_eq_true, if_false, List.getElem?_toArray]
  rw [show l[off]? = some v by simpa using h0]
  simp
theorem EqP.parts {P : Program} {d : Nat} {t : TypeId} {a b : List Value} {r : Bool} (h : EqP P d t a b r) (w : World) {l m : List Value} {off : Nat} (ha : SubL l off a.length a) (hb : SubL m off b.length b) :
    ∃ u v, (part t l.toArray off).run P w = .ok u w ∧ (part t m.toArray off).run P w = .ok v w ∧ (Op.equalIn d t u v).run P w = .ok r w := by
  rcases h with ⟨h1, h2, h3⟩ | ⟨u, v, rfl, rfl, h1, h2⟩
  · exact ⟨_, _, run_part h1 w ha, run_part h1 w (h2 ▸ hb), h3 w⟩
  · exact ⟨_, _, run_part1 h1 w ha, run_part1 h1 w hb, h2 w⟩
/-- The fields, one behind the other. -/
def FieldsEq (P : Program) (d : Nat) : List Field → List (List Value) → List (List Value) → Nat → Bool → Prop
  | [], [], [], _, r => r = true
  | f :: fs, a :: as, b :: bs, off, r => f.name ≠ "_" ∧ f.offset = off ∧ b.length = a.length ∧ ∃ r1 r2, EqP P d f.type a b r1 ∧ FieldsEq P d fs as bs (off + a.length) r2 ∧ r = (r1 && r2)
  | _, _, _, _, _ => False
theorem run_fieldsEq {P : Program} {d : Nat} (w : World) {xs ys : List Value} : ∀ (fs : List Field) (as bs : List (List Value)) (pa pb : List Value) (r : Bool), xs = pa ++ as.flatten → ys = pb ++ bs.flatten → pb.length = pa.length →
    FieldsEq P d fs as bs pa.length r → (Op.eqFields d xs.toArray ys.toArray fs).run P w = .ok r w := by
  intro fs
  induction fs with
  | nil =>
    intro as bs pa pb r _ _ _ h
    cases as with
    | nil => cases bs with
      | nil => simp only [FieldsEq] at h; subst h; simp [Op.eqFields]
      | cons => exact h.elim
    | cons => exact h.elim
  | cons f fs ih =>
    intro as bs pa pb r hx hy hl h
    cases as with
    | nil => exact h.elim
    | cons a as => cases bs with
      | nil => exact h.elim
      | cons b bs =>
        obtain ⟨h1, h2, h3, r1, r2, h4, h5, rfl⟩ := h
        simp only [List.flatten_cons] at hx hy
        obtain ⟨u, v, e1, e2, e3⟩ := h4.parts w (l := xs) (m := ys) (off := pa.length) ⟨pa, as.flatten, by simp [hx], rfl, rfl⟩ ⟨pb, bs.flatten, by simp [hy], hl, rfl⟩
        simp only [Op.eqFields, if_pos h1, h2, Sem.run_bind, e1, e2, e3, Result.andThen_ok]
        cases r1
        · simp
        · simp only [Bool.not_true, Bool.false_eq_true, if_false, Bool.true_and]
          exact ih as bs (pa ++ a) (pb ++ b) r2 (by simp [hx]) (by simp [hy]) (by simp [hl, h3]) (by simpa using h5)
theorem EqA.struct {P : Program} {d : Nat} {t : TypeId} {fs : Array Field} {sa sb : List (List Value)} {r : Bool} (hu : P.underlying t = some (.struct fs)) (hs : P.stoodInHeld t = false) (h : FieldsEq P d fs.toList sa sb 0 r) :
    EqA P (d + 1) t sa.flatten sb.flatten r := fun w => by
  have hf : P.fieldsOf t = fs := by unfold Program.fieldsOf; rw [hu]
  rw [run_equalIn_struct w d t _ _ (by rw [hf]; exact hu) hs, hf]
  exact run_fieldsEq w fs.toList sa sb [] [] r rfl rfl rfl h
theorem EqA.bytes {P : Program} {d n : Nat} {t e : TypeId} {k : IntKind} (hu : P.underlying t = some (.array n e)) (he : P.underlying e = some (.int k)) (hi : (P.info? e).isSome = true) (hc : P.cellsOf e = 1) (hs : Sca P e) (a b : List UInt8) (ha : a.length = n) (hb : b.length = n) :
    EqA P (d + 2) t (bytesV a) (bytesV b) (decide (a = b)) := fun w => by
  obtain ⟨i, hi⟩ := Option.isSome_iff_exists.1 hi
  rw [run_equalIn_array w (d + 1) _ _ hu hi, hc]
  have key : ∀ (is : List Nat), (∀ j ∈ is, j < n) → (Op.eqItems (d + 1) e 1 (bytesV a).toArray (bytesV b).toArray is).run P w = .ok (is.all fun j => a[j]? == b[j]?) w := by
    intro is
    induction is with
    | nil => intro _; simp [Op.eqItems]
    | cons j is ih =>
      intro h
      have hj := h j List.mem_cons_self
      have hja : a[j]? = some (a[j]'(by omega)) := List.getElem?_eq_getElem _
      have hjb : b[j]? = some (b[j]'(by omega)) := List.getElem?_eq_getElem _
      have e1 : (part e (bytesV a).toArray (j * 1)).run P w = .ok (byteV (a[j]'(by omega))) w := by
        unfold part
        simp [hs.agg w, bytesV, hja]
      have e2 : (part e (bytesV b).toArray (j * 1)).run P w = .ok (byteV (b[j]'(by omega))) w := by
        unfold part
        simp [hs.agg w, bytesV, hjb]
      have e3 : (Op.equalIn (d + 1) e (byteV (a[j]'(by omega))) (byteV (b[j]'(by omega)))).run P w = .ok (a[j]? == b[j]?) w := by
        unfold byteV
        rw [run_equalIn_int w d e .u8 k _ _ he, hja, hjb]
        congr 1
        by_cases hab : a[j]'(by omega) = b[j]'(by omega)
        · simp [hab]
        · have : ((a[j]'(by omega)).toNat : Int) ≠ (b[j]'(by omega)).toNat := fun hh => hab (UInt8.toNat_inj.1 (by omega))
          rw [show (((a[j]'(by omega)).toNat : Int) == (b[j]'(by omega)).toNat) = false from beq_eq_false_iff_ne.2 this]
          simp [hab]
      simp only [Op.eqItems, Sem.run_bind, e1, e2, e3, Result.andThen_ok, List.all_cons]
      cases a[j]? == b[j]?
      · simp
      · simp only [Bool.not_true, Bool.false_eq_true, if_false, Bool.true_and]
        exact ih fun j hj => h j (List.mem_cons_of_mem _ hj)
  rw [key _ fun j hj => List.mem_range.1 hj]
  congr 1
  by_cases hab : a = b
  · subst hab; simp
  · have : ¬ ∀ j, j ∈ List.range n → (a[j]? == b[j]?) = true := fun hh => hab (List.ext_getElem? fun j => by
      by_cases hj : j < n
      · simpa using hh j (List.mem_range.2 hj)
      · rw [List.getElem?_eq_none (by omega), List.getElem?_eq_none (by omega)])
    rw [decide_eq_false hab, Bool.eq_false_iff]
    intro hall
    exact this (List.all_eq_true.1 hall)
theorem EqA.bs {P : Program} {d n : Nat} {t e : TypeId} {k : IntKind} (hu : P.underlying t = some (.array n e)) (he : P.underlying e = some (.int k)) (hi : (P.info? e).isSome = true) (hc : P.cellsOf e = 1) (hs : Sca P e) (x y : Bs n) :
    EqA P (d + 2) t x.enc y.enc (decide (x = y)) := by
  have h := EqA.bytes (d := d) hu he hi hc hs x.l y.l x.h y.h
  have e : decide (x.l = y.l) = decide (x = y) := decide_eq_decide.2 ⟨Bs.ext, fun h => by rw [h]⟩
  rwa [e] at h
theorem EqP.agg {P : Program} {d : Nat} {t : TypeId} {a b : List Value} {r : Bool} {k : Nat} (hg : Agg P t k) (ha : a.length = k) (hb : b.length = k) (h : EqA P d t a b r) : EqP P d t a b r := .inl ⟨ha ▸ hg, by omega, h⟩
theorem EqP.int {P : Program} {d : Nat} {t : TypeId} {k k' : IntKind} (hs : Sca P t) (hu : P.underlying t = some (.int k')) (m n : Int) : EqP P (d + 1) t [.int k m] [.int k n] (decide (m = n)) :=
  .inr ⟨_, _, rfl, rfl, hs, fun w => by rw [run_equalIn_int w d t k k' m n hu]; congr 1⟩
theorem EqP.bool {P : Program} {d : Nat} {t : TypeId} (hs : Sca P t) (hu : P.underlying t = some .bool) (m n : Bool) : EqP P (d + 1) t [.bool m] [.bool n] (decide (m = n)) :=
  .inr ⟨_, _, rfl, rfl, hs, fun w => by rw [run_equalIn_bool' w d t m n hu]; congr 1⟩
theorem EqP.string {P : Program} {d : Nat} {t : TypeId} (hs : Sca P t) (hu : P.underlying t = some .string) (m n : ByteArray) : EqP P (d + 1) t [.string m] [.string n] (decide (m = n)) :=
  .inr ⟨_, _, rfl, rfl, hs, fun w => by
    rw [run_equalIn_string w d t m n hu]
    congr 1
    rw [ByteArray.toList_eq, ByteArray.toList_eq]
    obtain ⟨⟨m⟩⟩ := m
    obtain ⟨⟨n⟩⟩ := n
    by_cases h : m = n <;> simp [h]⟩
/-- == at a type, as a walk meets it. -/
structure EqTy (P : Program) (t : TypeId) (α : Type) [DecidableEq α] (enc : α → List Value) : Prop where
  eq : ∀ x y, EqA P 10000 t (enc x) (enc y) (decide (x = y))
  guard : P.eqGuardType P.depth t = false
section
variable {P : Program} {N : Nat} {G : Env} {S : List HProp} {F : Fr} {o : Oper} {t t' : TypeId} {x y : Operand} {α : Type} [DecidableEq α] {enc : α → List Value}
theorem QP.eql_agg (h : EqTy P t α enc) {a b : α} (ho : o.op = .binOp .eql t x y t') (hx : opv G x = some (.agg (enc a).toArray)) (hy : opv G y = some (.agg (enc b).toArray)) : QP P N G S F o (.bool (decide (a = b))) := fun ac w s w' => by
  unfold execOp
  simp only [ho, s.eval hx, s.eval hy, Sem.run_bind, run_eqGuard_agg w' .eql t x y _ _ h.guard, Result.andThen_ok, run_eql_struct, h.eq a b w', Sem.run_pure]
theorem QP.neq_agg (h : EqTy P t α enc) {a b : α} (ho : o.op = .binOp .neq t x y t') (hx : opv G x = some (.agg (enc a).toArray)) (hy : opv G y = some (.agg (enc b).toArray)) : QP P N G S F o (.bool (decide (a ≠ b))) := fun ac w s w' => by
  unfold execOp
  simp only [ho, s.eval hx, s.eval hy, Sem.run_bind, run_eqGuard_agg w' .neq t x y _ _ h.guard, Result.andThen_ok, run_neq_struct, h.eq a b w', Sem.run_pure]
  by_cases hab : a = b <;> simp [hab]
end

/-! ### Keys -/
def HasLits (P : Program) (d : Nat) (t : TypeId) (l : List Value) : Prop := ∃ ls, P.keyLits d t l = some ls
theorem HasLits.int {P : Program} {d : Nat} {t : TypeId} {k : IntKind} (hu : P.underlying t = some (.int k)) {n : Int} (hw : (Lit.int k n).wf = true) : HasLits P (d + 1) t [.int k n] := ⟨[.int k n], by
  unfold Program.keyLits; rw [hu]; simp only [hw, and_self, if_true]⟩
theorem HasLits.i64 {P : Program} {d : Nat} {t : TypeId} (hu : P.underlying t = some (.int .i64)) (n : I64) : HasLits P (d + 1) t [I64.v n] := HasLits.int hu (by
  have h1 := n.2.1
  have h2 := n.2.2
  simp only [Lit.wf, IntKind.min, IntKind.max, IntKind.signed, IntKind.bits]
  simp
  omega)
theorem mapM_some_of {α β : Type} {f : α → Option β} : ∀ {l : List α}, (∀ x ∈ l, ∃ y, f x = some y) → ∃ ys, l.mapM f = some ys
  | [], _ => ⟨[], rfl⟩
  | x :: l, h => by
    obtain ⟨y, hy⟩ := h x List.mem_cons_self
    obtain ⟨ys, hys⟩ := mapM_some_of (fun z hz => h z (List.mem_cons_of_mem _ hz))
    exact ⟨y :: ys, by rw [List.mapM_cons, hy, hys]; rfl⟩
theorem HasLits.bytes {P : Program} {d n : Nat} {t e : TypeId} (hu : P.underlying t = some (.array n e)) (he : P.underlying e = some (.int .u8)) (hct : P.cellsOf t = n) (hce : P.cellsOf e = 1) (x : Bs n) : HasLits P (d + 2) t x.enc := by
  unfold HasLits
  unfold Program.keyLits
  rw [hu]
  simp only [x.len, hct, if_true]
  obtain ⟨ys, hys⟩ := mapM_some_of (f := fun i => P.keyLits (d + 1) e ((x.enc.drop (i * P.cellsOf e)).take (P.cellsOf e))) (l := List.range n) (fun i hi => by
    rw [hce, Nat.mul_one]
    have hi' := List.mem_range.1 hi
    have hlt : i < x.enc.length := by rw [x.len]; exact hi'
    have hlt2 : i < x.l.length := by rw [x.h]; exact hi'
    have : (x.enc.drop i).take 1 = [byteV x.l[i]] := by
      rw [List.drop_eq_getElem_cons hlt]
      simp [Bs.enc, bytesV]
    rw [this]
    have hb : x.l[i].toNat < 256 := UInt8.toNat_lt _
    exact HasLits.int he (by simp only [Lit.wf, IntKind.min, IntKind.max, IntKind.signed, IntKind.bits]; simp; omega))
  exact ⟨_, by rw [hys]; rfl⟩
def FieldsLits (P : Program) (d : Nat) : List Field → List (List Value) → Nat → Prop
  | [], [], _ => True
  | f :: fs, a :: as, off => f.offset = off ∧ P.cellsOf f.type = a.length ∧ HasLits P d f.type a ∧ FieldsLits P d fs as (off + a.length)
  | _, _, _ => False
theorem HasLits.struct {P : Program} {d : Nat} {t : TypeId} {fs : Array Field} {sa : List (List Value)} (hu : P.underlying t = some (.struct fs)) (hl : sa.flatten.length = P.cellsOf t) (hn : fs.all (·.name != "_") = true) (h : FieldsLits P d fs.toList sa 0) :
    HasLits P (d + 1) t sa.flatten := by
  unfold HasLits
  unfold Program.keyLits
  rw [hu]
  simp only [hl, hn, and_self, if_true]
  have key : ∀ (fl : List Field) (as : List (List Value)) (pa : List Value), FieldsLits P d fl as pa.length → ∃ ys, fl.mapM (fun f => P.keyLits d f.type (((pa ++ as.flatten).drop f.offset).take (P.cellsOf f.type))) = some ys := by
    intro fl
    induction fl with
    | nil => intro as pa _; exact ⟨[], rfl⟩
    | cons f fl ih =>
      intro as pa h
      cases as with
      | nil => exact h.elim
      | cons a as =>
        obtain ⟨h1, h2, ⟨ls, h3⟩, h4⟩ := h
        obtain ⟨ys, hys⟩ := ih as (pa ++ a) (by simpa using h4)
        refine ⟨ls :: ys, ?_⟩
        rw [List.mapM_cons]
        have e : ((pa ++ (a :: as).flatten).drop f.offset).take (P.cellsOf f.type) = a := by
          rw [h1, h2]; simp
        rw [e, h3]
        have e2 : pa ++ (a :: as).flatten = pa ++ a ++ as.flatten := by simp
        rw [e2, hys]; rfl
  obtain ⟨ys, hys⟩ := key fs.toList sa [] h
  simp only [List.nil_append] at hys
  exact ⟨_, by rw [hys]; rfl⟩
/-- A type of keys. -/
structure KeyTy (P : Program) (t : TypeId) (α : Type) (enc : α → Value) : Prop where
  lits : ∀ x, ∃ l, keyOf P t (enc x) = some l
  law : Maps.Keyed P t
  inj : ∀ x y, enc x = enc y → x = y
theorem keyOf_agg {P : Program} {t : TypeId} {l : List Value} (hw : (match P.underlying t with | some (.array _ _) | some (.struct _) => true | _ => false) = true) (hk : P.keyType t = true) (hl : l.length = P.cellsOf t) (h : HasLits P (P.types.size + 1) t l) :
    ∃ x, keyOf P t (.agg l.toArray) = some x := by
  obtain ⟨ls, hls⟩ := h
  unfold keyOf
  have hf : (Value.agg l.toArray).formed P t = true := by
    unfold Value.formed
    split at hw
    · rename_i hu; rw [hu]; simp [hl]
    · rename_i hu; rw [hu]; simp [hl]
    · cases hw
  split at hw
  · rename_i hu; rw [hu]; simp only [hk, hf, Bool.and_self, if_true, Value.cells]; rw [hls]; exact ⟨_, rfl⟩
  · rename_i hu; rw [hu]; simp only [hk, hf, Bool.and_self, if_true, Value.cells]; rw [hls]; exact ⟨_, rfl⟩
  · cases hw
theorem KeyTy.agg {P : Program} {t : TypeId} {α : Type} {enc : α → List Value} {m : Nat} (hw : (match P.underlying t with | some (.array _ _) | some (.struct _) => true | _ => false) = true) (hk : P.keyType t = true) (hm : m + 1 ≤ 10000) (hk2 : P.keyTypeAt m t = true) (ht : P.tiled m t = true)
    (hl : ∀ x, (enc x).length = P.cellsOf t) (h : ∀ x, HasLits P (P.types.size + 1) t (enc x)) (hi : ∀ x y, enc x = enc y → x = y) : KeyTy P t α (fun x => .agg (enc x).toArray) where
  lits x := keyOf_agg hw hk (hl x) (h x)
  law := Maps.Keyed.of_law (deep_law hm hk2 ht hw)
  inj x y e := hi x y (by simpa using e)
end Slb
