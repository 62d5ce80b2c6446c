/- Base 34: a whole slice as what is appended. -/
import Derived.Test.YtgcjmamfbcmccaaB17
namespace Slb
open Go Go.Proofs
section
variable {S : List HProp} {F : Fr}
theorem RowsAt.ownH {α : Type} {enc : α → List Value} {e : TypeId} {z : Nat} {a : Option Addr} {c : Nat} {xs : List α} (hl : ∀ x, (enc x).length = z) (hh : SlH a c xs) (h : slA e z enc (.slice a xs.length c) xs ∈ S) : RowsAt S F (.slice a xs.length c) xs.length z (xs.flatMap enc) := by
  rcases hh with ⟨rfl, rfl, rfl⟩ | ⟨⟨b, off, rfl⟩, hc⟩
  · exact RowsAt.empty rfl
  · exact RowsAt.sl hl (SlAt.own hl h)
end
end Slb
