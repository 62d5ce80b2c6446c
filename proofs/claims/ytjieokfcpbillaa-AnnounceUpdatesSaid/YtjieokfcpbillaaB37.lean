/- Base 37: a string's bytes; two strings. -/
import Derived.Test.YtjieokfcpbillaaB27
namespace Slb
open Go Go.Proofs
section
variable {P : Program} {N : Nat} {G : Env} {S : List HProp} {F : Fr} {o : Oper} {t t' e : TypeId} {x y : Operand}
theorem QP.indexS {k : IntKind} {s : ByteArray} {i : Int} {c : UInt8} (ho : o.op = .index t x y) (hx : opv G x = some (.string s)) (hy : opv G y = some (.int k i)) (hu : P.underlying t = some .string) (h0 : 0 ≤ i) (hc : s[i.toNat]? = some c) : QP P N G S F o (.int .u8 c.toNat) := fun a w st w' => by
  unfold execOp
  simp [ho, st.eval hx, st.eval hy, Instr.index, asIntOf, run_underlying hu, h0, hc]
theorem QP.eqS {a b : ByteArray} (ho : o.op = .binOp .eql t x y t') (hx : opv G x = some (.string a)) (hy : opv G y = some (.string b)) : QP P N G S F o (.bool (decide (a.data.toList = b.data.toList))) :=
  QP.eqlStr ho (by rw [hx]) (by rw [hy])
theorem str_get {s : ByteArray} {i : Nat} (h : i < s.size) : ∃ c, s[Int.toNat (i : Int)]? = some c := by
  refine ⟨s[i], ?_⟩
  simp [h]
end
end Slb
