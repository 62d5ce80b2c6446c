/- R5: a part of the proof that a law of this package holds for every input; no condition. -/
import Derived.Test.YtfjmefldilponaaR4
namespace Slb
open Go Go.Proofs
set_option maxRecDepth 20000
theorem filterMap_some {α β : Type} (f : α → β) (l : List α) : (l.filterMap fun x => some (f x)) = l.map f := by
  induction l with
  | nil => rfl
  | cons x l ih => simp
theorem count_es {E es : EntR} {M : TabR} (hv : vals E = M) (hp : es.Perm E) (p : Route → Bool) : (es.filter fun e => p e.2.2).length = (M.filter fun e => p e.2).length := by
  rw [(hp.filter _).length_eq, ← hv, vals, List.filter_map, List.length_map]
  rfl
theorem L_es {E es : EntR} {M : TabR} {L : List Route} (h : OrdR M L) (hv : vals E = M) (hp : es.Perm E) (hs : SortedE es) : es.map (fun e => e.2.2) = L := by
  refine h.uniq keyCmpR ?_ (List.pairwise_map.2 hs)
  rw [← hv, vals, List.map_map]
  exact hp.map _
/-- The table, its rows changed. -/
def mapM (f : Route → Route) (M : TabR) : TabR := M.map fun e => (e.1, f e.2)
theorem ord_map {M : TabR} {L : List Route} {f : Route → Route} (hf : ∀ s, keyR (f s) = keyR s) (h : OrdR M L) : OrdR (mapM f M) (L.map f) := by
  refine ⟨fun e he => ?_, ?_, ?_, ?_⟩
  · obtain ⟨e', he', rfl⟩ := List.mem_map.1 he
    show e'.1 = keyR (f e'.2)
    rw [hf]; exact h.keyed e' he'
  · rw [mapM, List.map_map]; exact h.nodup
  · rw [mapM, List.map_map]
    have := h.perm.map f
    rw [List.map_map] at this
    exact this
  · refine List.pairwise_map.2 (h.sort.imp fun {a b} hab => ?_)
    have e1 := keyCmpR.ext (f a) a (f b) (hf a)
    rw [e1]
    have e2 := keyCmpR.ext (f b) b a (hf b)
    rw [keyCmpR.neg, e2, ← keyCmpR.neg]; exact hab
theorem retr_key (now j : Int) (fr : Bs 16) (s : Route) : keyR (retrR now j fr s) = keyR s := by unfold retrR; split <;> rfl
theorem rec_key (s : Route) : keyR (recR s) = keyR s := rfl
theorem aged_key (now : Int) (s : Route) : keyR (agedR now s) = keyR s := by unfold agedR; split <;> rfl
theorem retractT (F : Fr) {b : Nat} {most : Int} {M : TabR} (hM : M.length ≤ 1000000) (hh0 : HoldR M) (now : Int) (hn0 : 0 ≤ now) (hn1 : now ≤ 2305843009213693952) (j : Int) (fr : Bs 16) :
    Spec Try.prog 17 #[.pointer (some ⟨b, 0, none⟩), .int .i64 now, .int .i64 j, .agg (Bs.enc fr).toArray] [RTab b most M] F
    fun v S => v = .int .i64 (M.filter fun e => mineR j fr e.2).length ∧ S = [RTab b most (mapM (retrR now j fr) M)] :=
  (retractT0 F hM hh0 now hn0 hn1 j fr).post fun v S w ⟨r, E, es, hv, hn, hp, h1, h2⟩ s => by
    refine ⟨_, ⟨by rw [h1, count_es hv hp], rfl⟩, ?_⟩
    subst h2
    refine s.pack (r := []) (m := [blk b (RouteTable.enc ⟨most, some r⟩) 76, mapR r (ptrs (stepE (retrG now j fr) E es)), rowsA Route.enc 37 (stepE (retrG now j fr) E es)]) fun p g => GTab.close ?_ g
    rw [stepE_vals hn hp, hv]
    exact filterMap_some _ _
/-- What the time leaves of the table. -/
def tickM (now : Int) (M : TabR) : TabR := M.filterMap fun e => (tickG now e.2).map fun s => (e.1, s)
theorem tick_rows (now : Int) (M : TabR) : (tickM now M).map (·.2) = (M.map (·.2)).filterMap (tickG now) := by
  unfold tickM
  induction M with
  | nil => rfl
  | cons e M ih =>
    rw [List.filterMap_cons, List.map_cons, List.filterMap_cons]
    cases h : tickG now e.2 with
    | none => simp only [Option.map_none]; exact ih
    | some s => simp only [Option.map_some, List.map_cons]; rw [ih]
theorem tickT (F : Fr) {b : Nat} {most : Int} {M : TabR} {L : List Route} (h : OrdR M L) (hM : M.length ≤ 1000000) (hh0 : HoldR M) (hu : UntilR M) (now : Int) (hn0 : 0 ≤ now) (hn1 : now ≤ 2305843009213693952) :
    Spec Try.prog 18 #[.pointer (some ⟨b, 0, none⟩), .int .i64 now] [RTab b most M] F
    fun v S => ∃ va vg, v = .tuple #[va, vg] ∧ S = [RTab b most (tickM now M), slA 37 81 Route.enc va ((L.filter (expR now)).map (agedR now)), slA 37 81 Route.enc vg ((L.filter (goneR now)).map (agedR now))] :=
  (tickT0 F hM h.keyed hh0 hu now hn0 hn1).post fun v S w ⟨r, E, es, va, vg, hv, hn, hp, hs, h1, h2⟩ s => by
    refine ⟨_, ⟨va, vg, h1, rfl⟩, ?_⟩
    subst h2
    have hL := L_es h hv hp hs
    have e1 : ∀ p : Route → Bool, ((es.filter fun e => p e.2.2).map fun e => agedR now e.2.2) = (L.filter p).map (agedR now) := fun p => by
      rw [← hL, List.filter_map, List.map_map]; rfl
    rw [e1, e1] at s
    refine s.pack (r := [slA 37 81 Route.enc va ((L.filter (expR now)).map (agedR now)), slA 37 81 Route.enc vg ((L.filter (goneR now)).map (agedR now))]) (m := [blk b (RouteTable.enc ⟨most, some r⟩) 76, mapR r (ptrs (stepE (tickG now) E es)), rowsA Route.enc 37 (stepE (tickG now) E es)]) fun p g => GTab.close ?_ g
    rw [stepE_vals hn hp, hv]
    rfl
theorem reckonFewT (F : Fr) {b : Nat} {most : Int} {M : TabR} (hM : M.length ≤ 1000000) (hh0 : HoldR M) (hfew : (M.filter fun e => newM e.2).length < 2) :
    Spec Try.prog 13 #[.pointer (some ⟨b, 0, none⟩), .func (.func 14) #[] #[]] [RTab b most M] F
    fun v S => ∃ a c, v = .slice a (M.filter fun e => newM e.2).length c ∧ S = [RTab b most (mapM recR M)] :=
  (reckonFew F hM hh0 (fun es hp => by
    rw [List.length_map]
    have := count_es (E := es) rfl (List.Perm.refl es) newM
    rw [this]
    rw [(hp.filter _).length_eq]; exact hfew)).post fun v S w ⟨r, E, es, a, c, hv, hn, hp, h1, h2⟩ s => by
    refine ⟨_, ⟨a, c, by rw [h1, List.length_map, count_es hv hp], rfl⟩, ?_⟩
    subst h2
    refine s.pack (r := []) (m := [blk b (RouteTable.enc ⟨most, some r⟩) 76, mapR r (ptrs (stepE recG E es)), rowsA Route.enc 37 (stepE recG E es)]) fun p g => GTab.close ?_ g
    rw [stepE_vals hn hp, hv]
    exact filterMap_some _ _
theorem getT (F : Fr) {b : Nat} {most : Int} {M : TabR} (p : Pair) (j : I64) (fr : Bs 16) : Spec Try.prog 20 #[.pointer (some ⟨b, 0, none⟩), .agg (Pair.enc p).toArray, .int .i64 j.val, .agg (Bs.enc fr).toArray] [RTab b most M] F
    fun v S => (alook M ⟨p, j, fr⟩ = none ∧ v = .tuple #[.agg Route.zero.enc.toArray, .bool false] ∧ S = [RTab b most M]) ∨ (∃ s, alook M ⟨p, j, fr⟩ = some s ∧ v = .tuple #[.agg (Route.enc s).toArray, .bool true] ∧ S = [RTab b most M]) := by
  refine (gtab_spec (A := []) (Q := fun v M' B => M' = M ∧ B = [] ∧ ((alook M ⟨p, j, fr⟩ = none ∧ v = .tuple #[.agg Route.zero.enc.toArray, .bool false]) ∨ (∃ s, alook M ⟨p, j, fr⟩ = some s ∧ v = .tuple #[.agg (Route.enc s).toArray, .bool true]))) fun F' r E h1 h2 hv hnd hle => ?_).mono ?_
  · cases h0 : alook E ⟨p, j, fr⟩ with
    | none =>
      refine (getQ_none F' ⟨h1, h2⟩ p j fr h0).mono ?_
      rintro v S ⟨rfl, rfl⟩
      exact ⟨E, [], [], ⟨hv, rfl, .inl ⟨by rw [← hv, alook_vals, h0]; rfl, rfl⟩⟩, perm_sameR⟩
    | some x =>
      obtain ⟨c, s⟩ := x
      refine (getQ_some F' ⟨h1, h2⟩ p j fr h0).mono ?_
      rintro v S ⟨rfl, rfl⟩
      exact ⟨E, [], [], ⟨hv, rfl, .inr ⟨s, by rw [← hv, alook_vals, h0]; rfl, rfl⟩⟩, perm_sameR⟩
  · rintro v S ⟨M', B, ⟨rfl, rfl, ⟨h1, h2⟩ | ⟨s, h1, h2⟩⟩, rfl⟩
    · exact .inl ⟨h1, h2, rfl⟩
    · exact .inr ⟨s, h1, h2, rfl⟩
end Slb
