/- Base 32: more of what can be read at a type: strings, structs that hold slices. -/
import Derived.Test.YtjieokfcpbillaaB31
namespace Slb
open Go Go.Proofs Go.RowKit Go.WideShapes Go.ChangeShapes
theorem TE.str {P : Program} {t : TypeId} (hu : P.underlying t = some .string) : TE P t ByteArray fun s => [.string s] := fun e w base sp held fuel cs y h => by
  obtain ⟨n, h1, _⟩ := DataW.trod_string hu h
  exact ⟨n, h1⟩
theorem TE.true {P : Program} {t : TypeId} {α : Type} {enc : α → List Value} (h : TE P t α enc) : TE P t { _x : α // True } fun x => enc x.val := fun e w base sp held fuel cs y hf => by
  obtain ⟨x, hx⟩ := h e w base sp held fuel cs y hf
  exact ⟨⟨x, trivial⟩, hx⟩
theorem val_aggW {P : Program} {t : TypeId} {α : Type} {enc : α → List Value} {W : World} (ht : TEW P W t α enc) (hw : (match P.underlying t with | some (.struct _) | some (.array _ _) => true | _ => false) = true) {r : Reach} {b0 : Nat} {v : Value} (hv : Value.okWide P W r b0 t v)
    {H : Type} {e : TypeId × Value → H} {base : Nat} {sp : Nat → Bool} {held : Bool} {d : DataW H} {ps : List MemPlace} (h : DataW.Trod e P W base sp held t v d ps) : ∃ x : α, v = .agg (enc x).toArray := by
  have hagg : ∃ cs, v = .agg cs := by
    unfold Value.okWide at hv
    split at hv
    · obtain ⟨cs, h1, _⟩ := hv; exact ⟨cs, h1⟩
    · obtain ⟨cs, h1, _⟩ := hv; exact ⟨cs, h1⟩
    · exfalso; revert hw; split <;> simp_all
  obtain ⟨cs, rfl⟩ := hagg
  obtain ⟨fuel, hf⟩ := h
  obtain ⟨x, hx⟩ := ht _ _ _ _ _ _ _ hf
  exact ⟨x, by rw [← hx]; simp [Value.cells]⟩
theorem SlIn.mono {α : Type} {F F' : Fr} {z : Nat} {enc : α → List Value} {p q : α → Prop} {s : Slc} (h : SlIn F z enc p s) (hle : PH.le F.h F'.h) (hpq : ∀ x, p x → q x) : SlIn F' z enc q s := by
  obtain ⟨xs, h1, h2, h3, h4⟩ := h
  exact ⟨xs, h1, h2, h3.mono hle, fun x hx => hpq x (h4 x hx)⟩
end Slb
