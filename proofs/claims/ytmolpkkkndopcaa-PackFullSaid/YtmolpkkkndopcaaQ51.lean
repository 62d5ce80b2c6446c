/- Q51: a part of the proof that a law of this package holds for every input; no condition. -/
import Derived.Test.YtmolpkkkndopcaaQ48
namespace Slb
open Go Go.Proofs
set_option maxRecDepth 20000
theorem ArgSl.sub {α : Type} {F : Fr} {b off z : Nat} {enc : α → List Value} {xs : List α} {i k : Nat} (hl : ∀ x, (enc x).length = z) (h : ArgSl F (some ⟨b, off, none⟩) z enc xs) (hk : i + k ≤ xs.length) : ArgSl F (some ⟨b, off + i * z, none⟩) z enc ((xs.drop i).take k) := fun h0 => by
  have hlen : ((xs.drop i).take k).length = k := by rw [List.length_take, List.length_drop]; omega
  obtain ⟨b', off', e, l, ty, fz, h1, h2⟩ := h (by omega)
  cases e
  refine ⟨b, off + i * z, rfl, l, ty, fz, h1, h2.trans ?_⟩
  have e : xs = xs.take i ++ ((xs.drop i).take k ++ (xs.drop i).drop k) := by rw [List.take_append_drop, List.take_append_drop]
  refine ⟨(xs.take i).flatMap enc, ((xs.drop i).drop k).flatMap enc, ?_, ?_, by rw [flatMap_len hl]⟩
  · conv => lhs; rw [e]
    simp only [List.flatMap_append, List.append_assoc]
  · rw [flatMap_len hl, List.length_take, Nat.min_eq_left (by omega)]
theorem full_at {α : Type} {gs : List (List α)} {i : Nat} {q : List α} {p : α} {r : List α} (hq : gs[i]? = some q) (hp : gs[i + 1]? = some (p :: r)) :
    (gs.flatten.drop (gs.take i).flatten.length).take (q.length + 1) = q ++ [p] ∧ (gs.take i).flatten.length + q.length + 1 ≤ gs.flatten.length := by
  have e : gs.flatten = (gs.take i).flatten ++ (q ++ (p :: (r ++ (gs.drop (i + 2)).flatten))) := by
    conv => lhs; rw [← List.take_append_drop i gs]
    obtain ⟨h1, rfl⟩ := List.getElem?_eq_some_iff.1 hq
    obtain ⟨h2, h3⟩ := List.getElem?_eq_some_iff.1 hp
    rw [List.flatten_append, List.drop_eq_getElem_cons h1, List.drop_eq_getElem_cons h2, h3]
    rfl
  constructor
  · rw [e, List.drop_left, List.take_length_add_append]
    rfl
  · conv => rhs; rw [e]
    simp only [List.length_append, List.length_cons]
    omega
theorem addErr_all {src : Bs 16} {mtu : Int} : ∀ {ts : List TlvX}, (∀ x ∈ ts, fitsF src mtu (tlvS x) x.l = 0) → addErr src mtu ts = 0
  | [], _ => rfl
  | x :: ts, h => by
    rw [addErr, if_neg (by rw [h x (by simp)]; simp)]
    exact addErr_all (fun y hy => h y (List.mem_cons_of_mem _ hy))
theorem full_law {src : Bs 16} {mtu : Int} {ts : List TlvX} (he : packErr src mtu ts = 0) {gs : List (List (Tlv × List Int))} (hgf : gs.flatten = ts.map tlvM) {i : Nat} {q : List (Tlv × List Int)} {p : Tlv × List Int} {r : List (Tlv × List Int)} (hq : gs[i]? = some q) (hp : gs[i + 1]? = some (p :: r)) (hf : FullB src mtu q p) :
    packErr src mtu ((ts.drop (gs.take i).flatten.length).take (q.length + 1)) = 0 ∧ (packF src mtu ((ts.drop (gs.take i).flatten.length).take (q.length + 1))).length = 2 := by
  have hmt : ¬ (mtu < 64 ∨ mtu > 65539) := by
    intro h9
    unfold packErr at he
    rw [if_pos h9] at he
    cases he
  have ha : addErr src mtu ts = 0 := by unfold packErr at he; rwa [if_neg hmt] at he
  have he2 : packErr src mtu ((ts.drop (gs.take i).flatten.length).take (q.length + 1)) = 0 := by
    unfold packErr
    rw [if_neg hmt]
    exact addErr_all (fun x hx => addErr_zero ha x (List.mem_of_mem_drop (List.mem_of_mem_take hx)))
  refine ⟨he2, ?_⟩
  have hm : ((ts.drop (gs.take i).flatten.length).take (q.length + 1)).map tlvM = q ++ [p] := by
    rw [List.map_take, List.map_drop, ← hgf]
    exact (full_at hq hp).1
  unfold packF
  rw [if_neg (by rw [he2]; simp), hm]
  unfold flushF
  rw [if_neg (by simp), List.length_append, hf]
  rfl
end Slb
