/- Base 33: a function's contract against a whole object. -/
import Derived.Test.YtjieokfcpbillaaB32
namespace Slb
open Go Go.Proofs
section
variable {P : Program} {f : FuncId} {args : Array Value} {S : List HProp} {F : Fr} {R : Value → List HProp → Prop}
theorem Spec.open {α : Type} {A : HProp} {T : α → List HProp} (h : ∀ p, A p → ∃ x, stars (T x) p) (j : ∀ x, Spec P f args (T x) F R) : Spec P f args [A] F R := fun w s => by
  obtain ⟨p, hp, back⟩ := s.unpack
  obtain ⟨x, hx⟩ := h p hp
  have := back _ hx
  rw [List.append_nil] at this
  exact j x w this
/-- Of some atoms the function wants the first ones; the rest is read only. -/
theorem Spec.part (m r : List HProp) {R1 : Value → List HProp → Prop} (p : S.Perm (m ++ r)) (h : ∀ F' : Fr, PH.le F.h F'.h → (∀ b o, pts b o ∈ r → F'.h b = some o) → Spec P f args m F' R1)
    (hr : ∀ v S1 w, R1 v S1 → Sat (S1 ++ r) F w → ∃ S2, R v S2 ∧ Sat S2 F w) : Spec P f args S F R :=
  Spec.perm p (Spec.post (Spec.lend h) fun v S1 w ⟨S2, h2, e⟩ s => by subst e; exact hr v S2 w h2 s)
theorem Sat.pack1 {A : HProp} {m : List HProp} {w : World} (s : Sat m F w) (h : ∀ p, stars m p → A p) : Sat [A] F w := Sat.single h s
end
end Slb
