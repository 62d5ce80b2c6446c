/- Base 38: a slice cut at both ends. -/
import Derived.Test.YtjieokfcpbillaaB22
namespace Slb
open Go Go.Proofs
section
variable {P : Program} {N : Nat} {G : Env} {S : List HProp} {F : Fr} {o : Oper} {t e : TypeId} {x y y2 : Operand} {z : Nat}
theorem QP.sliceLoHi {a : Option Addr} {n c : Nat} {i j : Int} (ho : o.op = .slice t x (some y) (some y2) none) (hx : opv G x = some (.slice a n c)) (hy : opv G y = some (.int .i64 i)) (hy2 : opv G y2 = some (.int .i64 j))
    (hu : P.underlying t = some (.slice e)) (hz : Sz P e z) (h0 : 0 ≤ i) (h1 : i ≤ j) (h2 : j ≤ c) : QP P N G S F o (.slice (slOff a c i.toNat z) (j.toNat - i.toNat) (c - i.toNat)) := fun ac w s w' => by
  have h3 : 0 ≤ j := Int.le_trans h0 h1
  unfold execOp
  simp [ho, s.eval hx, s.eval hy, s.eval hy2, Instr.sliceAt, Instr.slice, Instr.sliceBounds, Instr.sliceBound, asIntOf, run_underlying hu, hz w', h0, h1, h2, h3, slOff]
  intro hc; omega
end
end Slb
