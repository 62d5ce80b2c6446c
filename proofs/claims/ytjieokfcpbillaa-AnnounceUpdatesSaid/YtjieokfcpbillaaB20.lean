/- Base 20: sorting pointers; all of a table's rows, one behind the other. -/
import Derived.Test.YtjieokfcpbillaaB19
import Derived.Shelf.SlSortCmp.Whole1
namespace Slb
open Go Go.Proofs Go.Sort Go.Shelf
/-- slices.SortFunc at elements of one cell; what cmp is asked of may stand in the frame. -/
theorem Spec.sortFunc1 {α : Type} {P : Program} {ρ : Ren} (L : SlLaysF.n6 P ρ) {ev : α → Value} (hO1 : ∀ x, Value.cellB (ev x) = true) {cf : α → α → Int} (hO : SWO (ltOf cf)) {g : FuncId} (eg : CanEnter P g) (F : Fr)
    (hc : ∀ F' x y, PH.le F.h F'.h → Spec P g #[ev x, ev y] [] F' fun v S => v = .int .i64 (cf x y) ∧ S = []) {e : TypeId} {v : Value} {xs : List α} (hn : xs.length < 4611686018427387904) :
    Spec P (ρ.f 6) #[v, .func (.func g) #[] #[]] [slA e 1 (fun x => [ev x]) v xs] F fun u S => u = .tuple #[] ∧ ∃ ys, ys.Perm xs ∧ (ys.Pairwise fun a b => ¬ cf b a < 0) ∧ S = [slA e 1 (fun x => [ev x]) v ys] := fun w s => by
  obtain ⟨p, hp, back⟩ := s.unpack
  rcases hp with ⟨rfl, rfl, hpn⟩ | ⟨b, off, c, pre, spare, post, rfl, hpp, hpre, hcle, hsp⟩
  · refine (AnyF.slices_SortFunc_none { L with } none 0 (.func (.func g) #[] #[]) w).mono ?_
    rintro e' w' ⟨rfl, rfl⟩
    exact ⟨_, _, rfl, ⟨rfl, [], List.Perm.refl _, List.Pairwise.nil, rfl⟩, s⟩
  · by_cases hx0 : xs = []
    · subst hx0
      refine (AnyF.slices_SortFunc_none { L with } (some ⟨b, off, none⟩) c (.func (.func g) #[] #[]) w).mono ?_
      rintro e' w' ⟨rfl, rfl⟩
      exact ⟨_, _, rfl, ⟨rfl, [], List.Perm.refl _, List.Pairwise.nil, rfl⟩, s⟩
    haveI : Inhabited α := ⟨xs.head hx0⟩
    have s1 : Sat [pts b (.cells (pre ++ (xs.flatMap (fun x => [ev x]) ++ (spare ++ post))).toArray e (0, 0))] F w := by
      have := back [pts b (.cells (pre ++ (xs.flatMap (fun x => [ev x]) ++ (spare ++ post))).toArray e (0, 0))] (stars_one.2 hpp)
      simpa using this
    have hb := s1.at
    have hblk : b < w.heap.size := (Array.getElem?_eq_some_iff.1 hb).1
    have hfm : ∀ l : List α, l.flatMap (fun x => [ev x]) = l.map ev := fun l => by
      induction l with
      | nil => rfl
      | cons a l ih => simp only [List.flatMap_cons, ih]; rfl
    have hH : Holds ev w b off xs.toArray := by
      intro j hj
      have hj' : j < xs.length := by simpa using hj
      refine ⟨?_, by unfold World.frozen?; simp [hb]⟩
      rw [cell_at hb, List.getElem?_append_right (by omega), hfm, List.getElem?_append_left (by simp; omega)]
      rw [show off + j - pre.length = j by omega, List.getElem?_map, List.getElem?_eq_getElem hj']
      simp only [Option.map_some]
      rw [getElem!_pos xs.toArray j hj]
      simp
    have hrow : ∀ (n : Nat) (d : Array α) (os : Array Obj), d.size = xs.length → Sat [pts b (.cells (pre ++ (d.toList.flatMap (fun x => [ev x]) ++ (spare ++ post))).toArray e (0, 0))] F (sortWorld ev w b off n d os) := by
      intro n d os hd
      have h1 : Sat [pts b (.cells (pre ++ (d.toList.flatMap (fun x => [ev x]) ++ (spare ++ post))).toArray e (0, 0))] F (putRow ev (Sort.ahead w n) b off d) := by
        refine s1.set _ rfl rfl ⟨rfl, Nat.le_add_right _ _⟩ ?_ ?_
        · show (w.heap.modify b (onCells (putCells ev off d)))[b]? = _
          rw [Array.getElem?_modify, if_pos rfl, hb]
          simp only [Option.map_some, onCells]
          congr 2
          apply Array.ext'
          apply List.ext_getElem?
          intro j
          rw [putCells]
          simp only [hfm, Array.getElem?_toList, Array.getElem?_mapIdx, List.getElem?_toArray, List.getElem?_append, List.length_map, List.getElem?_map, Array.length_toList, hd, hpre]
          by_cases h2 : j < off
          · rw [if_pos h2, if_pos h2]
            cases pre[j]? with
            | none => rfl
            | some q => simp only [Option.map_some]; rw [if_neg (by omega)]
          · rw [if_neg h2, if_neg h2]
            by_cases h3 : j - off < xs.length
            · rw [if_pos h3, if_pos h3, List.getElem?_eq_getElem h3, Array.getElem?_eq_getElem (by omega)]
              simp only [Option.map_some]
              rw [if_pos (by omega), getElem!_pos d (j - off) (by omega)]
            · rw [if_neg h3, if_neg h3]
              generalize (if j - off - xs.length < spare.length then spare[j - off - xs.length]? else post[j - off - xs.length - spare.length]?) = q
              cases q with
              | none => rfl
              | some q => simp only [Option.map_some]; rw [if_neg (by omega)]
        · intro c' hc'
          show (w.heap.modify b (onCells (putCells ev off d)))[c']? = _
          rw [Array.getElem?_modify, if_neg (Ne.symm hc')]
      exact Sat.grow h1 os
    have hcmp : CmpLays1 P g #[] ev cf b off xs.toArray.size w := by
      intro m os dk hdk x y
      have hF : PH.le F.h (frAll (sortWorld ev w b off m dk os)).h := (hrow m dk os (by simpa using hdk)).2.2.2.1
      have := (hc (frAll (sortWorld ev w b off m dk os)) x y hF) (sortWorld ev w b off m dk os) (sat_frAll _)
      simp only [Array.append_empty]
      refine this.mono ?_
      rintro e' w' ⟨v', S', he, ⟨rfl, rfl⟩, s'⟩
      exact ⟨he, grown_of_sat s'⟩
    have hone : OneCell ev := fun x => by
      have := hO1 x
      cases h : ev x <;> simp_all [Value.cellB, Value.oneCell', OneCell]
    have hmain := Any.slices_SortFunc L ev hone cf hO g #[] b off c xs.toArray w (run_enter eg) hcmp hH hblk (by simpa using hn)
    refine hmain.mono ?_
    rintro e' w' ⟨rfl, d', n, os, hperm, hsort, rfl⟩
    obtain ⟨hsz, _, hpl⟩ := hperm
    have hsz' : d'.size = xs.length := by simpa using hsz
    have hpl' : d'.toList.Perm xs := by
      have e1 : d'.extract 0 xs.toArray.size = d' := by rw [← hsz]; simp
      have e2 : xs.toArray.extract 0 xs.toArray.size = xs.toArray := by simp
      rw [e1, e2] at hpl
      simpa using hpl
    refine ⟨_, _, rfl, ⟨rfl, d'.toList, hpl', ?_, rfl⟩, ?_⟩
    · rw [List.pairwise_iff_getElem]
      intro i j hi hj hij
      have hj' : j < d'.size := by simpa using hj
      have := hsort i j (Nat.zero_le _) hij (by simpa using (show j < xs.length by omega))
      rw [getElem!_pos d' j hj', getElem!_pos d' i (by omega)] at this
      simpa [ltOf] using this
    · refine (hrow n d' os hsz').head fun q hq => .inr ⟨b, off, c, pre, spare, post, ?_, hq, hpre, ?_, ?_⟩
      · simp [hsz']
      · simp [hsz']; exact hcle
      · simp [hsz', hsp]
/-! ### Each of a table's rows, one behind the other -/
section
variable {K V : Type} [DecidableEq K]
omit [DecidableEq K] in
theorem fmap_congr {α β : Type} {f h : α → Option β} : ∀ {l : List α}, (∀ x ∈ l, f x = h x) → l.filterMap f = l.filterMap h
  | [], _ => rfl
  | x :: l, e => by
    rw [List.filterMap_cons, List.filterMap_cons, e x List.mem_cons_self, fmap_congr fun y hy => e y (List.mem_cons_of_mem _ hy)]
theorem alook_adel_ne {M : List (K × V)} {k k' : K} (h : k ≠ k') : alook (adel M k) k' = alook M k' := by
  induction M with
  | nil => rfl
  | cons x M ih =>
    obtain ⟨a, u⟩ := x
    unfold adel
    by_cases hk : a = k
    · subst hk; rw [if_pos rfl]; simp [alook, h]
    · rw [if_neg hk]
      by_cases hk' : a = k'
      · simp [alook, hk']
      · simp [alook, hk', ih]
theorem keys_aset_some {M : List (K × V)} {k : K} {v old : V} (h : alook M k = some old) : (aset M k v).map (·.1) = M.map (·.1) := by
  obtain ⟨A, B, rfl, hA⟩ := alook_split h
  rw [aset_split hA]; simp
theorem nodup_adel {M : List (K × V)} (h : (M.map (·.1)).Nodup) (k : K) : ((adel M k).map (·.1)).Nodup := by
  rw [adel_filter h]; exact nodup_filter h _
/-- What one step makes of a table's entries: a row is changed, or gone. -/
def stepE (g : V → Option V) (E l : List (K × (Nat × V))) : List (K × (Nat × V)) := l.foldl (fun E e => match g e.2.2 with | some s => aset E e.1 (e.2.1, s) | none => adel E e.1) E
variable {g : V → Option V} {E es : List (K × (Nat × V))}
theorem stepE_succ {i : Nat} {e : K × (Nat × V)} (h : es[i]? = some e) : stepE g E (es.take (i + 1)) = match g e.2.2 with | some s => aset (stepE g E (es.take i)) e.1 (e.2.1, s) | none => adel (stepE g E (es.take i)) e.1 := by
  rw [List.take_add_one, h]
  simp [stepE, List.foldl_append]
theorem stepE_other {k : K} : ∀ {l E : List (K × (Nat × V))}, (∀ e ∈ l, e.1 ≠ k) → alook (stepE g E l) k = alook E k
  | [], _, _ => rfl
  | e :: l, E, h => by
    have h1 := h e List.mem_cons_self
    have ih := fun E => stepE_other (l := l) (E := E) fun e he => h e (List.mem_cons_of_mem _ he)
    show alook (stepE g (match g e.2.2 with | some s => aset E e.1 (e.2.1, s) | none => adel E e.1) l) k = _
    rw [ih]
    split
    · exact alook_aset_ne h1
    · exact alook_adel_ne h1
omit [DecidableEq K] in
theorem keys_es (hn : (E.map (·.1)).Nodup) (hp : es.Perm E) : (es.map (·.1)).Nodup := (hp.map (·.1)).nodup_iff.2 hn
theorem stepE_look (hn : (E.map (·.1)).Nodup) (hp : es.Perm E) {i : Nat} {e : K × (Nat × V)} (hi : es[i]? = some e) : alook (stepE g E (es.take i)) e.1 = some e.2 := by
  have hlt : i < es.length := (List.getElem?_eq_some_iff.1 hi).1
  have he : es = es.take i ++ e :: es.drop (i + 1) := by
    have : es[i] = e := (List.getElem?_eq_some_iff.1 hi).2
    rw [← this, ← List.drop_eq_getElem_cons hlt, List.take_append_drop]
  rw [stepE_other]
  · exact alook_mem_of_nodup hn (hp.subset (List.mem_of_getElem? hi))
  · have hk := keys_es hn hp
    rw [he, List.map_append, List.nodup_append] at hk
    intro e' he' hc
    exact hk.2.2 e'.1 (List.mem_map.2 ⟨e', he', rfl⟩) e.1 (by simp) hc
theorem stepE_part : ∀ {l E : List (K × (Nat × V))}, (E.map (·.1)).Nodup → (l.map (·.1)).Nodup → (∀ e ∈ l, alook E e.1 = some e.2) →
    vals (stepE g E l) = (vals E).filterMap fun e => if e.1 ∈ l.map (·.1) then (g e.2).map fun s => (e.1, s) else some e
  | [], E, _, _, _ => by simp [stepE]
  | e :: l, E, hn, hl, ha => by
    obtain ⟨k, c, s⟩ := e
    have hk := ha _ List.mem_cons_self
    simp only at hk
    obtain ⟨A, B, rfl, hA⟩ := alook_split hk
    rw [List.map_cons, List.nodup_cons] at hl
    have hnA : ∀ e ∈ A, e.1 ≠ k := fun e he => alook_none.1 hA e he
    have hnB : ∀ e ∈ B, e.1 ≠ k := fun e he hc => by
      rw [List.map_append, List.nodup_append, List.map_cons, List.nodup_cons] at hn
      exact hn.2.1.1 (List.mem_map.2 ⟨e, he, hc⟩)
    have hcong : ∀ C : List (K × (Nat × V)), (∀ e ∈ C, e.1 ≠ k) → (vals C).filterMap (fun e => if e.1 ∈ l.map (·.1) then (g e.2).map fun s => (e.1, s) else some e) = (vals C).filterMap (fun e => if e.1 ∈ ((k, (c, s)) :: l).map (·.1) then (g e.2).map fun s => (e.1, s) else some e) := fun C hC => by
      refine fmap_congr fun e he => ?_
      obtain ⟨e', he', rfl⟩ := List.mem_map.1 he
      have hne := hC e' he'
      have hiff : (e'.1 ∈ ((k, (c, s)) :: l).map (·.1)) ↔ (e'.1 ∈ l.map (·.1)) := by
        rw [List.map_cons, List.mem_cons]; exact ⟨fun h => h.resolve_left hne, .inr⟩
      simp only [hiff]
    show vals (stepE g (match g s with | some s' => aset (A ++ (k, (c, s)) :: B) k (c, s') | none => adel (A ++ (k, (c, s)) :: B) k) l) = _
    cases hg : g s with
    | some s' =>
      simp only
      rw [aset_split hA]
      rw [stepE_part (E := A ++ (k, (c, s')) :: B) (by simpa using hn) hl.2 (fun e he => by
        have hne : e.1 ≠ k := fun hc => hl.1 (List.mem_map.2 ⟨e, he, hc⟩)
        rw [← ha e (List.mem_cons_of_mem _ he), ← aset_split (v := (c, s)) (u := (c, s')) hA, alook_aset_ne (Ne.symm hne)])]
      simp only [vals, List.map_append, List.map_cons, List.filterMap_append]
      have e1 := hcong A hnA
      have e2 := hcong B hnB
      simp only [vals] at e1 e2
      rw [e1]
      congr 1
      rw [List.filterMap_cons, List.filterMap_cons, e2]
      have hkl : k ∉ l.map (·.1) := hl.1
      simp only [if_neg hkl, List.map_cons, List.mem_cons, true_or, if_true, hg, Option.map_some]
    | none =>
      simp only
      rw [adel_split hA]
      rw [stepE_part (E := A ++ B) (by
        have := nodup_adel hn k
        rwa [adel_split hA] at this) hl.2 (fun e he => by
        have hne : e.1 ≠ k := fun hc => hl.1 (List.mem_map.2 ⟨e, he, hc⟩)
        rw [← ha e (List.mem_cons_of_mem _ he), ← adel_split (v := (c, s)) hA, alook_adel_ne (Ne.symm hne)])]
      simp only [vals, List.map_append, List.map_cons, List.filterMap_append]
      have e1 := hcong A hnA
      have e2 := hcong B hnB
      simp only [vals] at e1 e2
      rw [e1]
      congr 1
      rw [List.filterMap_cons, e2]
      simp only [List.map_cons, List.mem_cons, true_or, if_true, hg, Option.map_none]
theorem stepE_vals (hn : (E.map (·.1)).Nodup) (hp : es.Perm E) : vals (stepE g E es) = (vals E).filterMap fun e => (g e.2).map fun s => (e.1, s) := by
  rw [stepE_part hn (keys_es hn hp) fun e he => alook_mem_of_nodup hn (hp.subset he)]
  refine fmap_congr fun e he => ?_
  obtain ⟨e', he', rfl⟩ := List.mem_map.1 he
  rw [if_pos (List.mem_map.2 ⟨e', hp.symm.subset he', rfl⟩)]
end
end Slb
