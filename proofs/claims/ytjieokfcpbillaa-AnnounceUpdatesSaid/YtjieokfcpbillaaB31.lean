/- Base 31: arguments that hold slices. -/
import Derived.Test.YtjieokfcpbillaaB15
namespace Slb
open Go Go.Proofs Go.RowKit Go.WideShapes Go.ChangeShapes
/-- What can be read at type t of the world W is a datum's cells. -/
def TEW (P : Program) (w : World) (t : TypeId) (α : Type) (enc : α → List Value) : Prop :=
  ∀ {H : Type} (e : TypeId × Value → H) (base : Nat) (sp : Nat → Bool) (held : Bool) (fuel : Nat) (cs : List Value) (y : DataW H × List MemPlace), DataW.trod e P w base sp held fuel t cs = some y → ∃ x : α, cs = enc x
theorem TE.at {P : Program} {t : TypeId} {α : Type} {enc : α → List Value} (h : TE P t α enc) (w : World) : TEW P w t α enc := fun e base sp held fuel cs y hf => h e w base sp held fuel cs y hf
/-- A slice's head whose rows lie in the world. -/
def SlIn {α : Type} (F : Fr) (z : Nat) (enc : α → List Value) (p : α → Prop) (s : Slc) : Prop := ∃ xs : List α, s.n = xs.length ∧ xs.length ≤ maxLen ∧ ArgSl F s.a z enc xs ∧ ∀ x ∈ xs, p x
theorem open_sl {P : Program} {t e : TypeId} {α : Type} {enc : α → List Value} {z : Nat} (ht : P.underlying t = some (.slice e)) {W : World} (hte : TEW P W e α enc) (hz : P.cellsOf e = z) (hz0 : 0 < z) (hl : ∀ x, (enc x).length = z)
    {H : Type} {en : TypeId × Value → H} {base : Nat} {sp : Nat → Bool} {held : Bool} {fuel : Nat} {cs : List Value} {y : DataW H × List MemPlace} (hf : DataW.trod en P W base sp held fuel t cs = some y) :
    ∃ (a : Option Addr) (xs : List α) (c : Nat), cs = [.slice a xs.length c] ∧ xs.length ≤ maxLen ∧ ArgSl (frAll W) a z enc xs := by
  rcases Go.Deep.open_slice ht hf with ⟨h1, _⟩ | ⟨a, len, cap, m, n, D, Pl, h1, hb, hle, hm, hmm, _, hx⟩
  · exact ⟨none, [], 0, h1, Nat.zero_le _, fun h => by simp at h⟩
  · have hlm : len ≤ m := by rw [hmm]; split <;> omega
    obtain ⟨xs, hlen, hxs⟩ := list_of_each (Q := fun i x => W.cells? base (a.add (i * z)) z = some (enc x)) len fun i hi => by
      obtain ⟨cs', hc, hd⟩ := hx i (by omega)
      obtain ⟨x, rfl⟩ := hte _ _ _ _ _ _ _ hd
      rw [hz] at hc
      exact ⟨x, hc⟩
    refine ⟨some a, xs, cap, by rw [hlen]; exact h1, by omega, fun h0 => ?_⟩
    have hall : ∀ i x, xs[i]? = some x → ∀ j, j < z → W.cell? ((a.add (i * z)).add j) = (enc x)[j]? := fun i x hi j hj => by
      obtain ⟨_, _, h3⟩ := World.cells?_some (hxs i x hi)
      exact h3 j hj
    have h00 := hall 0 xs[0] (List.getElem?_eq_getElem h0) 0 hz0
    have hl0 : 0 < (enc (xs[0]'h0)).length := by rw [hl]; exact hz0
    obtain ⟨v0, hv0⟩ : ∃ v0, (enc (xs[0]'h0))[0]? = some v0 := ⟨_, List.getElem?_eq_getElem hl0⟩
    rw [hv0] at h00
    rw [show (a.add (0 * z)).add 0 = a by simp [Addr.add]] at h00
    obtain ⟨ab, ao, asp⟩ := a
    have hblk : ∃ l ty fz, W.heap[ab]? = some (.cells l ty fz) ∧ asp = none := by
      unfold World.cell? at h00
      split at h00
      · rename_i c t' f' hh
        refine ⟨c, t', f', hh, ?_⟩
        cases asp with
        | none => rfl
        | some q => simp at h00
      · cases h00
    obtain ⟨l, ty, fz, hh, rfl⟩ := hblk
    refine ⟨ab, ao, rfl, l.toList, ty, fz, (by show W.heap[ab]? = _; simpa using hh), ?_⟩
    refine subL_of_get (flatMap_len hl xs) (Nat.mul_pos h0 hz0) fun j hj => ?_
    have hlt : j / z < xs.length := Nat.div_lt_of_lt_mul (by rw [Nat.mul_comm]; exact hj)
    have hmod : j % z < z := Nat.mod_lt _ hz0
    have hrow := sub_row (enc := enc) hl (xs := xs) (i := j / z) (List.getElem?_eq_getElem hlt)
    have hg := hrow.get (i := j % z) hmod
    have hj2 : j / z * z + j % z = j := by rw [Nat.mul_comm]; exact Nat.div_add_mod j z
    rw [hj2] at hg
    rw [hg, ← hall (j / z) _ (List.getElem?_eq_getElem hlt) (j % z) hmod]
    rw [add_lit, add_lit, show ao + j / z * z + j % z = ao + j by omega]
    unfold World.cell?
    simp [hh]
theorem argSl_val {α : Type} {p : α → Prop} {F : Fr} {a : Option Addr} {z : Nat} {enc : α → List Value} {xs : List { x : α // p x }} (h : ArgSl F a z (fun x => enc x.val) xs) : ArgSl F a z enc (xs.map (·.val)) := fun h0 => by
  obtain ⟨b, off, e1, l, ty, fz, e2, e3⟩ := h (by simpa using h0)
  refine ⟨b, off, e1, l, ty, fz, e2, ?_⟩
  simpa [List.flatMap_map] using e3
theorem TEW.slice {P : Program} {t e : TypeId} {α : Type} {p : α → Prop} {enc : α → List Value} {z : Nat} (ht : P.underlying t = some (.slice e)) {W : World} (hte : TEW P W e { x : α // p x } (fun x => enc x.val)) (hz : P.cellsOf e = z) (hz0 : 0 < z) (hl : ∀ x, (enc x).length = z) :
    TEW P W t { s : Slc // SlIn (frAll W) z enc p s } (fun s => [Slc.v s.val]) := fun en base sp held fuel cs y hf => by
  obtain ⟨a, xs, c, h1, h2, h3⟩ := open_sl ht hte hz hz0 (fun x => hl x.val) hf
  refine ⟨⟨⟨a, xs.length, c⟩, xs.map (·.val), by simp, by simpa using h2, argSl_val h3, fun x hx => ?_⟩, h1⟩
  obtain ⟨y, _, rfl⟩ := List.mem_map.1 hx
  exact y.property
theorem sl_argT {P : Program} {t e : TypeId} {α : Type} {p : α → Prop} {enc : α → List Value} {z : Nat} (ht : P.underlying t = some (.slice e)) {W : World} (hte : TEW P W e { x : α // p x } (fun x => enc x.val)) (hz : P.cellsOf e = z) (hz0 : 0 < z) (hl : ∀ x, (enc x).length = z) {r : Reach} {b0 : Nat} {v : Value} (hv : Value.okWide P W r b0 t v)
    {H : Type} {en : TypeId × Value → H} {base : Nat} {sp : Nat → Bool} {held : Bool} {d : DataW H} {ps : List MemPlace} (h : DataW.Trod en P W base sp held t v d ps) :
    ∃ (a : Option Addr) (xs : List α) (c : Nat), v = .slice a xs.length c ∧ xs.length ≤ maxLen ∧ ArgSl (frAll W) a z enc xs ∧ ∀ x ∈ xs, p x := by
  obtain ⟨fuel, hf⟩ := h
  have hcell : v.cells = #[v] := by
    unfold Value.okWide at hv
    rw [ht] at hv
    simp only at hv
    cases v <;> first | rfl | (simp [Cell.okWide, ht, Cell.ok] at hv)
  rw [hcell] at hf
  obtain ⟨a, xs, c, h1, h2, h3⟩ := open_sl ht hte hz hz0 (fun x => hl x.val) hf
  simp only [List.cons.injEq, and_true] at h1
  refine ⟨a, xs.map (·.val), c, by simpa using h1, by simpa using h2, argSl_val h3, fun x hx => ?_⟩
  obtain ⟨y, _, rfl⟩ := List.mem_map.1 hx
  exact y.property
end Slb
