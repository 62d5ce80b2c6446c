/- Base 12: slices.SortFunc at structs, by the shelf's contract. -/
import Derived.Test.YtjieokfcpbillaaB11
import Derived.Shelf.SlSortCmp.WholeK
import Derived.Shelf.SlSortCmp.NoneTotal
namespace Slb
open Go Go.Proofs Go.Sort Go.Shelf

section
variable {α : Type} [Inhabited α] {enc : α → List Value} {k : Nat}
theorem flatK_get (hk : ∀ x, (enc x).length = k) (xs : List α) {j : Nat} (hj : j < xs.length * k) : (flatK enc k xs.toArray)[j]! = ((xs.flatMap enc)[j]?).getD default := by
  rw [get_flatK enc k xs.toArray j (by simpa using hj)]
  have hkp : 0 < k := by rcases Nat.eq_zero_or_pos k with h | h; · subst h; simp at hj
                         · exact h
  have hlt : j / k < xs.length := Nat.div_lt_of_lt_mul (by rw [Nat.mul_comm]; exact hj)
  have hmod : j % k < k := Nat.mod_lt _ hkp
  have hrow := sub_row (enc := enc) hk (xs := xs) (i := j / k) (List.getElem?_eq_getElem hlt)
  have hg := hrow.get (i := j % k) hmod
  rw [show j / k * k + j % k = j by rw [Nat.mul_comm]; exact Nat.div_add_mod j k] at hg
  rw [hg]
  have e1 : (xs.toArray)[j / k]! = xs[j / k] := by simp [hlt]
  rw [e1]
  have : j % k < (enc xs[j / k]).length := by rw [hk]; exact hmod
  rw [List.getElem?_eq_getElem this]
  simp [this]
end
/-- A world that has the frame's heap as its own. -/
def frAll (w : World) : Fr := ⟨hp w, w.os, w.tape, w.output, w.drawn⟩
theorem sat_frAll (w : World) : Sat [] (frAll w) w := ⟨rfl, rfl, ⟨rfl, Nat.le_refl _⟩, PH.le.refl _, PH.none, rfl, PH.none_disj _, PH.none_le _⟩
theorem grown_of_sat {S : List HProp} {w w' : World} (s : Sat S (frAll w) w') : ∃ q os', w' = Go.Sort.grow (w.drewN q) os' := by
  obtain ⟨a, b, ⟨c, c'⟩, d, _⟩ := s
  refine ⟨w'.drawn - w.drawn, w'.heap.extract w.heap.size, ?_⟩
  have hsz : w.heap.size ≤ w'.heap.size := by
    rcases Nat.eq_zero_or_pos w.heap.size with h | h
    · omega
    · have hlast : w.heap[w.heap.size - 1]? = some w.heap[w.heap.size - 1] := Array.getElem?_eq_getElem (by omega)
      have := d _ _ hlast
      have := (Array.getElem?_eq_some_iff.1 this).1
      omega
  have hheap : w'.heap = w.heap ++ w'.heap.extract w.heap.size := by
    apply Array.ext_getElem?
    intro i
    rw [Array.getElem?_append]
    split
    · rename_i hi
      have := d i _ (Array.getElem?_eq_getElem hi)
      rw [show w'.heap[i]? = _ from this]
      exact (Array.getElem?_eq_getElem hi).symm
    · rename_i hi
      rw [Array.getElem?_extract]
      split
      · congr 1; omega
      · rw [Array.getElem?_eq_none (by omega)]
  have hd : w'.drawn = w.drawn + (w'.drawn - w.drawn) := by
    have : w.drawn ≤ w'.drawn := c'
    omega
  unfold Go.Sort.grow World.drewN
  obtain ⟨h1, h2, h3, h4, h5⟩ := w'
  simp only [frAll] at a b c
  subst a b c
  simp only at hheap hd ⊢
  rw [← hd, ← hheap]
theorem Sat.grow {S : List HProp} {F : Fr} {w : World} (s : Sat S F w) (os : Array Obj) : Sat S F (Go.Sort.grow w os) := by
  obtain ⟨a, b, c, d, h, e, f, g⟩ := s
  have hle : PH.le (hp w) (hp (Go.Sort.grow w os)) := fun i o h => by
    have hlt := (Array.getElem?_eq_some_iff.1 h).1
    show (w.heap ++ os)[i]? = some o
    rw [Array.getElem?_append_left hlt]; exact h
  exact ⟨a, b, c, d.trans hle, h, e, f, g.trans hle⟩
theorem putCells_row {α : Type} [Inhabited α] {enc : α → List Value} {k : Nat} (hk : ∀ x, (enc x).length = k) (xs : List α) {pre mid post : List Value} {off : Nat} (hp : pre.length = off) (hm : mid.length = xs.length * k) :
    putCells id off (flatK enc k xs.toArray) (pre ++ (mid ++ post)).toArray = (pre ++ (xs.flatMap enc ++ post)).toArray := by
  apply Array.ext'
  apply List.ext_getElem?
  intro j
  have hfl := flatMap_len hk xs
  simp only [putCells, Array.toList_mapIdx, List.getElem?_mapIdx, size_flatK, List.size_toArray, id]
  by_cases h1 : j < off
  · rw [List.getElem?_append_left (by omega), List.getElem?_append_left (by omega)]
    rw [List.getElem?_eq_getElem (by omega)]
    simp only [Option.map_some]
    rw [if_neg (by omega)]
  · by_cases h2 : j < off + xs.length * k
    · have hlt : j - pre.length < xs.length * k := by omega
      rw [List.getElem?_append_right (by omega), List.getElem?_append_left (by omega), List.getElem?_append_right (by omega), List.getElem?_append_left (by omega)]
      rw [List.getElem?_eq_getElem (by omega)]
      simp only [Option.map_some]
      rw [if_pos (by omega), ← hp, flatK_get hk xs hlt, List.getElem?_eq_getElem (by omega)]
      rfl
    · rw [List.getElem?_append_right (by omega), List.getElem?_append_right (by omega), List.getElem?_append_right (by omega), List.getElem?_append_right (by omega)]
      rw [hfl, hm]
      cases hq : post[j - pre.length - xs.length * k]? with
      | none => rfl
      | some q => simp only [Option.map_some]; rw [if_neg (by omega)]
/-- slices.SortFunc. -/
theorem Spec.sortFunc {α : Type} [Inhabited α] {P : Program} {ρ : Ren} (L : SlLaysF0.n6 P ρ) {k : Nat} {enc : α → List Value} (aE : ∀ w, (isAgg (ρ.t 24)).run P w = .ok true w) (zE : ∀ w, (Go.sizeOf (ρ.t 24)).run P w = .ok k w) (hk : ∀ x, (enc x).length = k)
    (h1 : ∀ x, ∀ v ∈ enc x, Value.cellB v = true) {cf : α → α → Int} (hO : SWO (ltOf cf)) {g : FuncId} (eg : CanEnter P g)
    (hc : ∀ F x y, Spec P g #[.agg (enc x).toArray, .agg (enc y).toArray] [] F fun v S => v = .int .i64 (cf x y) ∧ S = []) {e : TypeId} {v : Value} {xs : List α} (hn : xs.length < 4611686018427387904) (F : Fr) :
    Spec P (ρ.f 6) #[v, .func (.func g) #[] #[]] [slA e k enc v xs] F fun u S => u = .tuple #[] ∧ ∃ ys, ys.Perm xs ∧ (ys.Pairwise fun a b => ¬ cf b a < 0) ∧ S = [slA e k enc v ys] := fun w s => by
  obtain ⟨p, hp, back⟩ := s.unpack
  rcases hp with ⟨rfl, rfl, hpn⟩ | ⟨b, off, c, pre, spare, post, rfl, hpp, hpre, hcle, hsp⟩
  · refine (AnyF.slices_SortFunc_none L none 0 (.func (.func g) #[] #[]) w).mono ?_
    rintro e' w' ⟨rfl, rfl⟩
    exact ⟨_, _, rfl, ⟨rfl, [], List.Perm.refl _, List.Pairwise.nil, rfl⟩, s⟩
  · have s1 : Sat [pts b (.cells (pre ++ (xs.flatMap enc ++ (spare ++ post))).toArray e (0, 0))] F w := by
      have := back [pts b (.cells (pre ++ (xs.flatMap enc ++ (spare ++ post))).toArray e (0, 0))] (stars_one.2 hpp)
      simpa using this
    have hb := s1.at
    have hblk : b < w.heap.size := (Array.getElem?_eq_some_iff.1 hb).1
    have hfl := flatMap_len hk xs
    have hH : HoldsK enc k w b off xs.toArray := by
      intro j hj
      have hj' : j < xs.length * k := by simpa using hj
      refine ⟨?_, by unfold World.frozen?; simp [hb]⟩
      rw [cell_at hb, id, flatK_get hk xs hj', List.getElem?_append_right (by omega), List.getElem?_append_left (by omega)]
      rw [show off + j - pre.length = j by omega, List.getElem?_eq_getElem (by omega)]
      rfl
    have hcmp : CmpLays P g #[] enc k cf b off xs.toArray.size w := by
      intro m os dk _ x y
      have := (hc (frAll (sortWorldK enc k w b off m dk os)) x y) (sortWorldK enc k w b off m dk os) (sat_frAll _)
      simp only [Array.append_empty]
      refine this.mono ?_
      rintro e' w' ⟨v', S', he, ⟨rfl, rfl⟩, s'⟩
      exact ⟨he, grown_of_sat s'⟩
    have hone : ∀ x, ∀ v ∈ enc x, v.oneCell' = true := fun x v hv => by
      have := h1 x v hv
      cases v <;> simp_all [Value.cellB, Value.oneCell']
    have hmain := AnyQ.slices_SortFunc L k aE zE enc hk hone cf hO g #[] b off c xs.toArray w (run_enter eg) hcmp hH hblk (by simpa using hn)
    refine hmain.mono ?_
    rintro e' w' ⟨rfl, d', n, os, hperm, hsort, rfl⟩
    obtain ⟨hsz, _, hpl⟩ := hperm
    have hsz' : d'.size = xs.length := by simpa using hsz
    have hpl' : d'.toList.Perm xs := by
      have e1 : d'.extract 0 xs.toArray.size = d' := by rw [← hsz]; simp
      have e2 : xs.toArray.extract 0 xs.toArray.size = xs.toArray := by simp
      rw [e1, e2] at hpl
      simpa using hpl
    refine ⟨_, _, rfl, ⟨rfl, d'.toList, hpl', ?_, rfl⟩, ?_⟩
    · rw [List.pairwise_iff_getElem]
      intro i j hi hj hij
      have hj' : j < d'.size := by simpa using hj
      have := hsort i j (Nat.zero_le _) hij (by simpa using (show j < xs.length by omega))
      rw [getElem!_pos d' j hj', getElem!_pos d' i (by omega)] at this
      simpa [ltOf] using this
    · refine Sat.grow ?_ os
      have hw1 : Sat [pts b (.cells (pre ++ (d'.toList.flatMap enc ++ (spare ++ post))).toArray e (0, 0))] F (putRowK enc k (Sort.ahead w n) b off d') := by
        refine s1.set _ rfl rfl ⟨rfl, Nat.le_add_right _ _⟩ ?_ ?_
        · show (w.heap.modify b (onCells (putCells id off (flatK enc k d'))))[b]? = _
          rw [Array.getElem?_modify, if_pos rfl, hb]
          simp only [Option.map_some, onCells]
          have := putCells_row hk d'.toList (pre := pre) (mid := xs.flatMap enc) (post := spare ++ post) hpre (by rw [hfl]; simp [hsz'])
          rw [show d'.toList.toArray = d' by simp] at this
          rw [this]
        · intro c' hc'
          show (w.heap.modify b (onCells (putCells id off (flatK enc k d'))))[c']? = _
          rw [Array.getElem?_modify, if_neg (Ne.symm hc')]
      refine hw1.head fun q hq => .inr ⟨b, off, c, pre, spare, post, ?_, hq, hpre, ?_, ?_⟩
      · simp [hsz']
      · simp [hsz']; exact hcle
      · simp [hsz', hsp]
end Slb
