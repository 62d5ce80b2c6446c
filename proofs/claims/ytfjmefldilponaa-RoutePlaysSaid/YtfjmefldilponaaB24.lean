/- Base 24: a list whose first rows are changed already. -/
import Derived.Test.YtfjmefldilponaaB23
namespace Slb
open Go Go.Proofs
section
variable {α : Type} {f : α → α} {L : List α} {i : Nat} {x : α}
/-- The first i are changed. -/
def mapTo (f : α → α) (i : Nat) (L : List α) : List α := (L.take i).map f ++ L.drop i
theorem mapTo_zero (f : α → α) (L : List α) : mapTo f 0 L = L := by simp [mapTo]
theorem mapTo_all (f : α → α) {L : List α} {i : Nat} (h : L.length ≤ i) : mapTo f i L = L.map f := by
  rw [mapTo, List.take_of_length_le h, List.drop_eq_nil_of_le h, List.append_nil]
theorem mapTo_len (f : α → α) (i : Nat) (L : List α) : (mapTo f i L).length = L.length := by
  rw [mapTo, List.length_append, List.length_map, List.length_take, List.length_drop]; omega
theorem mapTo_get (f : α → α) (h : L[i]? = some x) : (mapTo f i L)[i]? = some x := by
  have hi : i < L.length := (List.getElem?_eq_some_iff.1 h).1
  rw [mapTo, List.getElem?_append_right (by rw [List.length_map, List.length_take]; omega), List.getElem?_drop, List.length_map, List.length_take, Nat.min_eq_left (by omega)]
  rw [← h]; congr 1; omega
theorem mapTo_set {y : α} (h : L[i]? = some x) (hy : y = f x) : (mapTo f i L).set i y = mapTo f (i + 1) L := by
  subst hy
  have hi : i < L.length := (List.getElem?_eq_some_iff.1 h).1
  have hx : L[i] = x := (List.getElem?_eq_some_iff.1 h).2
  have hl : ((L.take i).map f).length = i := by rw [List.length_map, List.length_take, Nat.min_eq_left (by omega)]
  rw [mapTo, mapTo, List.set_append_right _ _ (by omega), hl, Nat.sub_self, List.drop_eq_getElem_cons hi, List.set_cons_zero, List.take_add_one, h]
  simp
theorem mapTo_same (h : L[i]? = some x) (hx : f x = x) : mapTo f i L = mapTo f (i + 1) L := by
  have hi : i < L.length := (List.getElem?_eq_some_iff.1 h).1
  rw [← mapTo_set h hx.symm]
  have h1 := mapTo_get f h
  have h2 : i < (mapTo f i L).length := by rw [mapTo_len]; exact hi
  have h3 : (mapTo f i L)[i] = x := (List.getElem?_eq_some_iff.1 h1).2
  conv => rhs; rw [← h3]
  exact (List.set_getElem_self h2).symm
theorem set_get {y : α} (hi : i < L.length) : (L.set i y)[i]? = some y := by
  rw [List.getElem?_set_self hi]
theorem SlH.of_len {α β : Type} {a : Option Addr} {c : Nat} {xs : List α} {ys : List β} (h : SlH a c xs) (hl : ys.length = xs.length) : SlH a c ys := by
  rcases h with ⟨h1, h2, rfl⟩ | ⟨h1, h2⟩
  · exact .inl ⟨h1, h2, List.eq_nil_of_length_eq_zero hl⟩
  · exact .inr ⟨h1, by omega⟩
end
end Slb
