/- Base 27: an array's bytes, one by one; bytes as a string; shifting, and. -/
import Derived.Test.YtjieokfcpbillaaB26
import Derived.Laws.BytesString
import Derived.Laws.Strings
namespace Slb
open Go Go.Proofs
theorem Bs.subAt {n : Nat} (x : Bs n) {i off : Nat} {c : UInt8} (h : x.l[i]? = some c) (ho : off = i) : SubL x.enc off 1 [.int .u8 c.toNat] := by
  subst ho
  obtain ⟨hlt, rfl⟩ := List.getElem?_eq_some_iff.1 h
  refine ⟨bytesV (x.l.take off), bytesV (x.l.drop (off + 1)), ?_, by rw [bytesV_length, List.length_take]; omega, rfl⟩
  have : x.l = x.l.take off ++ [x.l[off]] ++ x.l.drop (off + 1) := by
    rw [List.append_assoc, List.singleton_append, ← List.drop_eq_getElem_cons hlt, List.take_append_drop]
  have h2 := congrArg bytesV this
  simp only [bytesV, List.map_append, List.map_cons, List.map_nil] at h2
  exact h2
theorem Bs.subTake {n k off : Nat} {x : Bs n} {l : List Value} (h : SubL l off n x.enc) (hk : k ≤ n) : SubL l off (x.l.take k).length (bytesV (x.l.take k)) := by
  have h1 : SubL x.enc 0 k (bytesV (x.l.take k)) := ⟨[], bytesV (x.l.drop k), by unfold Bs.enc bytesV; rw [List.nil_append, ← List.map_append, List.take_append_drop], rfl, by rw [bytesV_length, List.length_take, x.h]; omega⟩
  have h2 := h.trans h1
  rw [List.length_take, x.h, Nat.min_eq_left hk]
  exact h2
theorem Bs.takeLen {n k : Nat} (x : Bs n) (hk : k ≤ n) : k = (x.l.take k).length := by rw [List.length_take, x.h]; omega
/-- One byte is written. -/
def Bs.put {n : Nat} (x : Bs n) (i : Nat) (c : UInt8) : Bs n := ⟨x.l.set i c, by rw [List.length_set, x.h]⟩
theorem Bs.setAt {n : Nat} (x : Bs n) {i off : Nat} {c : UInt8} {v : Value} (hi : i < n) (ho : off = i) (hv : v = .int .u8 c.toNat) : SetL x.enc off 1 v.cells.toList (x.put i c).enc := by
  subst ho hv
  have hlt : off < x.l.length := by rw [x.h]; exact hi
  refine ⟨bytesV (x.l.take off), [byteV x.l[off]], bytesV (x.l.drop (off + 1)), ?_, ?_, by rw [bytesV_length, List.length_take]; omega, rfl, rfl⟩
  · have : x.l = x.l.take off ++ [x.l[off]] ++ x.l.drop (off + 1) := by
      rw [List.append_assoc, List.singleton_append, ← List.drop_eq_getElem_cons hlt, List.take_append_drop]
    have h2 := congrArg bytesV this
    simp only [bytesV, List.map_append, List.map_cons, List.map_nil] at h2
    exact h2
  · unfold Bs.enc Bs.put
    show bytesV (x.l.set off c) = _
    rw [List.set_eq_take_append_cons_drop, if_pos hlt]
    simp [bytesV, byteV, Value.cells]
section
variable {P : Program} {N : Nat} {G : Env} {S : List HProp} {F : Fr} {o : Oper} {t t' e : TypeId} {x y : Operand}
theorem QP.shr16 {yk : IntKind} {m n : Int} (ho : o.op = .binOp .shr t x y t') (hx : opv G x = some (.int .u16 m)) (hy : opv G y = some (.int yk n)) (h0 : 0 ≤ n) (h1 : n ≤ 16) : QP P N G S F o (.int .u16 (m / 2 ^ n.toNat)) := fun ac w s w' => by
  unfold execOp; simp [ho, s.eval hx, s.eval hy, eqGuard_at_int, binOp, shift_shr_u16 (h₀ := h0) (h₁ := h1)]
/-- Bytes and bytes. -/
theorem QP.and8 {a b : UInt8} {m n : Int} (ho : o.op = .binOp .and t x y t') (hx : opv G x = some (.int .u8 m)) (hy : opv G y = some (.int .u8 n)) (ha : m = a.toNat) (hb : n = b.toNat) : QP P N G S F o (.int .u8 (a &&& b).toNat) := fun ac w s w' => by
  subst ha hb
  have h8 : ∀ (u v : UInt8), IntKind.u8.wrap ((BitVec.ofInt 8 (u.toNat : Int) &&& BitVec.ofInt 8 (v.toNat : Int)).toNat : Int) = ((u &&& v).toNat : Int) := by
    intro u v
    have e1 : BitVec.ofInt 8 (u.toNat : Int) = u.toBitVec := by
      apply BitVec.eq_of_toNat_eq
      simp
    have e2 : BitVec.ofInt 8 (v.toNat : Int) = v.toBitVec := by
      apply BitVec.eq_of_toNat_eq
      simp
    rw [e1, e2]
    show IntKind.u8.wrap (((u &&& v).toBitVec.toNat : Nat) : Int) = _
    have h3 := (u &&& v).toNat_lt
    show IntKind.u8.wrap (((u &&& v).toNat : Nat) : Int) = _
    generalize (u &&& v).toNat = k at h3 ⊢
    unfold IntKind.wrap
    have h4 : (IntKind.u8.bits : Nat) = 8 := rfl
    simp only [h4, show IntKind.u8.signed = false from rfl]
    simp
    omega
  unfold execOp
  simp [ho, s.eval hx, s.eval hy, eqGuard_at_int, binOp, Op.intBits]
  exact h8 a b
theorem QP.sliceArrHi {b off n z : Nat} {j : Int} (ho : o.op = .slice t x none (some y) none) (hx : opv G x = some (.pointer (some ⟨b, off, none⟩))) (hy : opv G y = some (.int .i64 j)) (hu : P.underlying t = some (.array n e)) (hz : Sz P e z) (h0 : 0 ≤ j) (h1 : j ≤ n) (hn : 0 < n) :
    QP P N G S F o (.slice (some ⟨b, off, none⟩) j.toNat n) := fun a w s w' => by
  unfold execOp
  simp [ho, s.eval hx, s.eval hy, Instr.sliceAt, Instr.sureAddr, Instr.sliceBounds, Instr.sliceBound, asIntOf, run_underlying hu, hz w', h0, h1]
  by_cases h : n = 0 <;> simp [h, add_lit]
theorem foldl_bytes (x : List UInt8) : ∀ acc : ByteArray, ((x.map fun c => (c.toNat : Int)).foldl (fun r n => r.push (UInt8.ofNat n.toNat)) acc).data = acc.data ++ x.toArray := by
  induction x with
  | nil => intro acc; simp
  | cons c x ih =>
    intro acc
    simp only [List.map_cons, List.foldl_cons]
    rw [ih]
    simp [ByteArray.push]
/-- Bytes become a string. -/
theorem QR.bytesStr {e : TypeId} {b off n c : Nat} {l : List Value} {xs : List UInt8} (ho : o.op = .convert t t' x) (hx : opv G x = some (.slice (some ⟨b, off, none⟩) n c)) (h1 : P.underlying t = some (.slice e)) (h2 : P.underlying e = some (.int .u8)) (h3 : P.underlying t' = some .string)
    (hr : Rd S F b l) (hs : SubL l off xs.length (bytesV xs)) (hn : n = xs.length) : QR P N G S F o (.string ⟨xs.toArray⟩) := fun a w s => by
  subst hn
  obtain ⟨ty, fz, hh⟩ := hr.at s.sat
  have hl : (loadCells ⟨b, off, none⟩ xs.length).run P w = .ok (bytesV xs).toArray w := by
    have := run_loadCells (P := P) hh (off := off) [] (bytesV xs) 0 #[] (fun j hj => by rw [Nat.zero_add]; exact hs.get (by rw [bytesV_length] at hj; exact hj))
    rw [bytesV_length] at this
    unfold loadCells
    simpa using this
  have hb : bytesV xs = (xs.map fun c => (c.toNat : Int)).map (Value.int .u8) := by simp [bytesV, byteV]
  rw [hb] at hl
  have h5 := run_bytesToString (P := P) w ⟨b, off, none⟩ xs.length c _ hl
  have h6 : (xs.map fun c => (c.toNat : Int)).foldl (fun r n => r.push (UInt8.ofNat n.toNat)) ByteArray.empty = ⟨xs.toArray⟩ := by
    have := foldl_bytes xs ByteArray.empty
    cases hq : (xs.map fun c => (c.toNat : Int)).foldl (fun r n => r.push (UInt8.ofNat n.toNat)) ByteArray.empty with
    | mk d => rw [hq] at this; simp [ByteArray.empty, ByteArray.emptyWithCapacity] at this; rw [this]; simp; rfl
  rw [h6] at h5
  unfold execOp
  simp only [ho, s.eval hx]
  simp [run_convert_bytes_string w t t' e _ _ _ h1 h2 h3, h5]
theorem QP.eqlStr {a b : List UInt8} (ho : o.op = .binOp .eql t x y t') (hx : opv G x = some (.string ⟨a.toArray⟩)) (hy : opv G y = some (.string ⟨b.toArray⟩)) : QP P N G S F o (.bool (decide (a = b))) := fun ac w s w' => by
  have h : (a == b) = decide (a = b) := by by_cases h : a = b <;> simp [h]
  unfold execOp
  simp [ho, s.eval hx, s.eval hy, eqGuard_at_string, binOp, Op.stringOp, ByteArray.toList_eq, h]
/-- An array that is written out. -/
theorem QP.buildArr {parts : Array (Nat × Operand)} {zero : Value} {n : Nat} {e : TypeId} {vs : List Value} {l : List Value} (ho : o.op = .build t parts) (hu : P.underlying t = some (.array n e)) (hz : Sz P e 1) (h0 : Zero P t zero)
    (hv : opvs G (parts.toList.map (·.2)) = some vs) (hf : Instr.fill (fun i => some (i * 1, 1)) zero.cells ((parts.toList.map (·.1)).zip vs) = some l.toArray) : QP P N G S F o (.agg l.toArray) := fun a w s w' => by
  unfold execOp
  simp only [ho, Instr.build, Sem.run_bind, h0 w', Result.andThen_ok, run_underlying hu, hz w']
  rw [parts_eval s hv]
  simp only [hf]
  simp
end
end Slb
