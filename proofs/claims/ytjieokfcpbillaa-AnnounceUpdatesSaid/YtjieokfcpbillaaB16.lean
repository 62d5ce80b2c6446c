/- Base 16: shifting; rows that a walk has made. -/
import Derived.Test.YtjieokfcpbillaaB15
namespace Slb
open Go Go.Proofs
theorem QP.shl64 {P : Program} {N : Nat} {G : Env} {S : List HProp} {F : Fr} {o : Oper} {t t' : TypeId} {x y : Operand} {yk : IntKind} {m n : Int} (ho : o.op = .binOp .shl t x y t') (hx : opv G x = some (.int .i64 m)) (hy : opv G y = some (.int yk n)) (h0 : 0 ≤ n) (h1 : n ≤ 64) : QP P N G S F o (.int .i64 (IntKind.i64.wrap (m * 2 ^ n.toNat))) := fun ac w s w' => by
  unfold execOp; simp [ho, s.eval hx, s.eval hy, eqGuard_at_int, binOp, shift_shl_i64 (h₀ := h0) (h₁ := h1)]
/-- Blocks of a table, as one atom. -/
def rowsA {K α : Type} (enc : α → List Value) (ty : TypeId) (L : List (K × (Nat × α))) : HProp := stars (rows enc ty L)
theorem rowsA_cons {K α : Type} {enc : α → List Value} {ty : TypeId} {L : List (K × (Nat × α))} (k : K) (b : Nat) (x : α) {h : PH} (hh : stars [blk b (enc x) ty, rowsA enc ty L] h) : rowsA enc ty ((k, (b, x)) :: L) h := by
  obtain ⟨h1, h2, d, e, a1, a2⟩ := hh
  exact ⟨h1, h2, d, e, a1, of_star_emp a2⟩
theorem J.addRows {N : Nat} {G : Env} {S : List HProp} {F : Fr} {Φ : Act → World → Prop} (K : Type) {α : Type} (enc : α → List Value) (ty : TypeId) (j : J N G (rowsA enc ty ([] : List (K × (Nat × α))) :: S) F Φ) : J N G S F Φ := j.conseq fun w s => by
  obtain ⟨a, b, c, d, k, h1, h2, h3⟩ := s
  exact ⟨a, b, c, d, k, ⟨PH.none, k, PH.none_disj k, (PH.none_union k).symm, rfl, h1⟩, h2, h3⟩
/-- The same rows, said otherwise. -/
theorem J.slEq {N : Nat} {G : Env} {S S1 : List HProp} {F : Fr} {Φ : Act → World → Prop} {α : Type} {e : TypeId} {z : Nat} {enc : α → List Value} {v : Value} {xs ys : List α} (pk : Pick S (slA e z enc v xs) S1) (h : xs = ys) (j : J N G (slA e z enc v ys :: S1) F Φ) : J N G S F Φ := by
  subst h
  exact j.conseq fun _ s => s.perm pk.perm
end Slb
