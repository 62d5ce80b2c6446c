/- Base 35: bits of a byte: shifting down, and not, and one; clearing bits of an array. -/
import Derived.Test.YtjieokfcpbillaaB27
namespace Slb
open Go Go.Proofs
section
variable {P : Program} {N : Nat} {G : Env} {S : List HProp} {F : Fr} {o : Oper} {t t' e : TypeId} {x y : Operand}
theorem QP.shr8 {yk : IntKind} {m n : Int} (ho : o.op = .binOp .shr t x y t') (hx : opv G x = some (.int .u8 m)) (hy : opv G y = some (.int yk n)) (h0 : 0 ≤ n) : QP P N G S F o (.int .u8 (m / 2 ^ min n.toNat 8)) := fun ac w s w' => by
  unfold execOp; simp [ho, s.eval hx, s.eval hy, eqGuard_at_int, binOp, shift_shr_any (h₀ := h0)]
  rfl
theorem wrap8_toNat (u : UInt8) : IntKind.u8.wrap ((u.toNat : Nat) : Int) = (u.toNat : Int) := by
  have h3 := u.toNat_lt
  generalize u.toNat = k at h3 ⊢
  unfold IntKind.wrap
  have h4 : (IntKind.u8.bits : Nat) = 8 := rfl
  simp only [h4, show IntKind.u8.signed = false from rfl]
  simp
  omega
theorem ofInt8 (u : UInt8) : BitVec.ofInt 8 (u.toNat : Int) = u.toBitVec := by
  apply BitVec.eq_of_toNat_eq
  simp
theorem bits_andNot (a b : UInt8) : Op.intBits .andNot .u8 (a.toNat : Int) (b.toNat : Int) = pure (.int .u8 ((a &&& ~~~b).toNat : Int)) := by
  have h8 : IntKind.u8.wrap ((BitVec.ofInt 8 (a.toNat : Int) &&& ~~~(BitVec.ofInt 8 (b.toNat : Int))).toNat : Int) = ((a &&& ~~~b).toNat : Int) := by
    rw [ofInt8, ofInt8]
    show IntKind.u8.wrap (((a &&& ~~~b).toNat : Nat) : Int) = _
    exact wrap8_toNat _
  unfold Op.intBits
  exact congrArg (fun n => (pure (Value.int .u8 n) : Sem Value)) h8
theorem QP.andNot8 {a b : UInt8} {m n : Int} (ho : o.op = .binOp .andNot t x y t') (hx : opv G x = some (.int .u8 m)) (hy : opv G y = some (.int .u8 n)) (ha : m = a.toNat) (hb : n = b.toNat) : QP P N G S F o (.int .u8 (a &&& ~~~b).toNat) := fun ac w s w' => by
  subst ha hb
  unfold execOp
  simp [-UInt8.toNat_and, -UInt8.toNat_not, ho, s.eval hx, s.eval hy, eqGuard_at_int, binOp, bits_andNot]
theorem QP.and1 {m : Int} (ho : o.op = .binOp .and t x y t') (hx : opv G x = some (.int .i64 m)) (hy : opv G y = some (.int .i64 1)) (h0 : 0 ≤ m) (h1 : m ≤ 255) : QP P N G S F o (.int .i64 (m % 2)) := fun ac w s w' => by
  have h : IntKind.i64.wrap ((BitVec.ofInt 64 m &&& BitVec.ofInt 64 1).toNat : Int) = m % 2 := by
    obtain ⟨k, rfl⟩ := Int.eq_ofNat_of_zero_le h0
    have hk : k ≤ 255 := by omega
    have e1 : (BitVec.ofInt 64 (k : Int) &&& BitVec.ofInt 64 1).toNat = k % 2 := by
      rw [BitVec.toNat_and]
      have e2 : (BitVec.ofInt 64 (k : Int)).toNat = k := by
        simp
        omega
      rw [e2]
      show k &&& 1 = k % 2
      exact Nat.and_one_is_mod k
    rw [e1, wrap_i64 (by omega) (by omega)]
    omega
  unfold execOp
  simp [ho, s.eval hx, s.eval hy, eqGuard_at_int, binOp, Op.intBits]
  exact h
end
end Slb
