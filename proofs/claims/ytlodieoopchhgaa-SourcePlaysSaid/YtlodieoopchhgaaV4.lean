/- V4: a part of the proof that a law of this package holds for every input; no condition. -/
import Derived.Test.YtlodieoopchhgaaV3
namespace Slb
open Go Go.Proofs
set_option maxRecDepth 20000
abbrev TabM := List (SourceKey × Source)
/-- A table, its sources, whatever blocks they lie in. -/
def Tab (b : Nat) (most : Int) (M : TabM) : HProp := fun h => ∃ r E, vals E = M ∧ stars (blk b (SourceTable.enc ⟨most, some r⟩) 66 :: mapS r (ptrs E) :: rows Source.enc 45 E) h
theorem tab_spec {f : FuncId} {args : Array Value} {A : List HProp} {F : Fr} {b : Nat} {most : Int} {M : TabM} {Q : Value → TabM → List HProp → Prop}
    (h : ∀ F' r E, InF F' b r most E → vals E = M → (M.map (·.1)).Nodup → PH.le F.h F'.h → Spec Try.prog f args (mapS r (ptrs E) :: A) F' fun v S => ∃ E' B rr, Q v (vals E') B ∧ (S ++ rows Source.enc 45 E).Perm (mapS r (ptrs E') :: (rows Source.enc 45 E' ++ (B ++ rr)))) :
    Spec Try.prog f args (Tab b most M :: A) F fun v S => ∃ M' B, Q v M' B ∧ S = Tab b most M' :: B := fun w s => by
  obtain ⟨p, ⟨r, E, hv, hst⟩, back⟩ := s.unpack
  have s1 := back _ hst
  have hnd : (M.map (·.1)).Nodup := by
    have := s1.mapNodup (M := ptrs E) (r := r) (ek := fun x => .agg (SourceKey.enc x).toArray) (ev := pv) (List.mem_append_left _ (List.mem_cons_of_mem _ List.mem_cons_self))
    rw [keys_ptrs] at this
    rw [← hv, keys_vals]; exact this
  have hperm : ((blk b (SourceTable.enc ⟨most, some r⟩) 66 :: mapS r (ptrs E) :: rows Source.enc 45 E) ++ A).Perm ((mapS r (ptrs E) :: A) ++ (blk b (SourceTable.enc ⟨most, some r⟩) 66 :: rows Source.enc 45 E)) := by
    refine (List.Perm.swap _ _ _).trans (List.Perm.cons _ ?_)
    refine (List.Perm.cons _ List.perm_append_comm).trans ?_
    exact List.perm_middle.symm
  have hl := Spec.lend (P := Try.prog) (f := f) (args := args) (F := F) (m := mapS r (ptrs E) :: A) (r := blk b (SourceTable.enc ⟨most, some r⟩) 66 :: rows Source.enc 45 E) (fun F' hle hr => h F' r E ⟨hr _ _ List.mem_cons_self, rows_frame hr fun A hA => List.mem_cons_of_mem _ hA⟩ hv hnd hle)
  refine (hl w (s1.perm hperm)).mono ?_
  rintro e w' ⟨v, S, he, ⟨S1, ⟨E', B, rr, hQ, hp⟩, rfl⟩, s2⟩
  refine ⟨v, _, he, ⟨vals E', B, hQ, rfl⟩, ?_⟩
  have hp2 : (S1 ++ (blk b (SourceTable.enc ⟨most, some r⟩) 66 :: rows Source.enc 45 E)).Perm (((blk b (SourceTable.enc ⟨most, some r⟩) 66 :: mapS r (ptrs E') :: rows Source.enc 45 E') ++ B) ++ rr) := by
    refine List.perm_middle.trans (List.Perm.cons _ ?_)
    simpa [List.append_assoc] using hp
  exact (Sat.dropP hp2 s2).pack fun p hp => ⟨r, E', rfl, hp⟩
theorem perm_same {r : Nat} {E : EntS} {S : List HProp} : ((mapS r (ptrs E) :: S) ++ rows Source.enc 45 E).Perm (mapS r (ptrs E) :: (rows Source.enc 45 E ++ (S ++ []))) := by
  simp only [List.cons_append, List.append_nil]
  exact List.Perm.cons _ List.perm_append_comm
theorem newT (F : Fr) (most : Int) : Spec Try.prog 10 #[.int .i64 most] [] F fun v S => ∃ b, v = .pointer (some ⟨b, 0, none⟩) ∧ S = [Tab b most []] :=
  (newS F most).post fun v S1 w ⟨b, r, h1, h2⟩ s => ⟨_, ⟨b, h1, rfl⟩, by
    subst h2
    refine Sat.pack (r := []) (m := [blk b (SourceTable.enc ⟨most, some r⟩) 66, mapS r []]) s fun p hp => ⟨r, [], rfl, hp⟩⟩
def getR (o : Option Source) : Value := .tuple #[.agg (o.getD Source.zero).enc.toArray, .bool o.isSome]
theorem getT (F : Fr) {b : Nat} {most : Int} {M : TabM} (p : Pair) (id : Bs 8) : Spec Try.prog 13 #[.pointer (some ⟨b, 0, none⟩), .agg (Pair.enc p).toArray, .agg (Bs.enc id).toArray] [Tab b most M] F fun v S => v = getR (alook M ⟨p, id⟩) ∧ S = [Tab b most M] := by
  refine Spec.mono (tab_spec (Q := fun v M' B => v = getR (alook M ⟨p, id⟩) ∧ M' = M ∧ B = []) fun F' r E hf hv hnd hle => ?_) ?_
  · subst hv
    cases h0 : alook E ⟨p, id⟩ with
    | none =>
      refine (getS_none F' hf p id h0).mono ?_
      rintro v S ⟨rfl, rfl⟩
      exact ⟨E, [], [], ⟨by rw [alook_vals, h0]; rfl, rfl, rfl⟩, perm_same⟩
    | some x =>
      obtain ⟨c, s⟩ := x
      refine (getS_some F' hf p id h0).mono ?_
      rintro v S ⟨rfl, rfl⟩
      exact ⟨E, [], [], ⟨by rw [alook_vals, h0]; rfl, rfl, rfl⟩, perm_same⟩
  · rintro v S ⟨M', B, ⟨h1, rfl, rfl⟩, rfl⟩; exact ⟨h1, rfl⟩
theorem feasT (F : Fr) {b : Nat} {most : Int} {M : TabM} (p : Pair) (id : Bs 8) (d : Distance) : Spec Try.prog 14 #[.pointer (some ⟨b, 0, none⟩), .agg (Pair.enc p).toArray, .agg (Bs.enc id).toArray, .agg (Distance.enc d).toArray] [Tab b most M] F
    fun v S => v = .bool (feasB d ((alook M ⟨p, id⟩).map (·.d))) ∧ S = [Tab b most M] := by
  refine Spec.mono (tab_spec (Q := fun v M' B => v = .bool (feasB d ((alook M ⟨p, id⟩).map (·.d))) ∧ M' = M ∧ B = []) fun F' r E hf hv hnd hle => ?_) ?_
  · subst hv
    cases h0 : alook E ⟨p, id⟩ with
    | none =>
      refine (feasS_none F' hf p id d h0).mono ?_
      rintro v S ⟨rfl, rfl⟩
      exact ⟨E, [], [], ⟨by rw [alook_vals, h0]; rfl, rfl, rfl⟩, perm_same⟩
    | some x =>
      obtain ⟨c, s⟩ := x
      refine (feasS_some F' hf p id d h0).mono ?_
      rintro v S ⟨rfl, rfl⟩
      exact ⟨E, [], [], ⟨by rw [alook_vals, h0]; rfl, rfl, rfl⟩, perm_same⟩
  · rintro v S ⟨M', B, ⟨h1, rfl, rfl⟩, rfl⟩; exact ⟨h1, rfl⟩
def keepF (most : Int) (M : TabM) (now : Int) (p : Pair) (id : Bs 8) (d : Distance) : Int × TabM :=
  if d.metric = 65535 then (2, M) else
  match alook M ⟨p, id⟩ with
  | none => if (M.length : Int) ≥ most then (6, M) else (0, aset M ⟨p, id⟩ ⟨p, id, d, now⟩)
  | some s => (0, aset M ⟨p, id⟩ ⟨p, id, keepD (some s.d) d, now⟩)
theorem perm_set {r c : Nat} {E : EntS} {k : SourceKey} {x : Source} : ∃ rr, ([mapS r (aset (ptrs E) k c), blk c x.enc 45] ++ rows Source.enc 45 E).Perm (mapS r (ptrs (aset E k (c, x))) :: (rows Source.enc 45 (aset E k (c, x)) ++ ([] ++ rr))) := by
  obtain ⟨rr, hr⟩ := rows_aset Source.enc 45 E k c x
  refine ⟨rr, ?_⟩
  rw [ptrs_aset]
  exact List.Perm.cons _ hr
theorem keepT (F : Fr) {b : Nat} {most : Int} {M : TabM} (now : Int) (p : Pair) (id : Bs 8) (d : Distance) : Spec Try.prog 11 #[.pointer (some ⟨b, 0, none⟩), .int .i64 now, .agg (Pair.enc p).toArray, .agg (Bs.enc id).toArray, .agg (Distance.enc d).toArray] [Tab b most M] F
    fun v S => v = .int .i64 (keepF most M now p id d).1 ∧ S = [Tab b most (keepF most M now p id d).2] := by
  refine Spec.mono (tab_spec (Q := fun v M' B => v = .int .i64 (keepF most M now p id d).1 ∧ M' = (keepF most M now p id d).2 ∧ B = []) fun F' r E hf hv hnd hle => ?_) ?_
  · subst hv
    have hlen : (ptrs E).length = (vals E).length := by simp [ptrs, vals]
    cases h0 : alook E ⟨p, id⟩ with
    | none =>
      have hm : alook (vals E) ⟨p, id⟩ = none := by rw [alook_vals, h0]; rfl
      refine (keepS_none F' hf now p id d h0).mono ?_
      rintro v S (⟨h1, rfl, rfl⟩ | ⟨h1, h2, rfl, rfl⟩ | ⟨h1, h2, rfl, c, rfl⟩)
      · exact ⟨E, [], [], ⟨by simp [keepF, h1], by simp [keepF, h1], rfl⟩, perm_same⟩
      · rw [hlen] at h2
        exact ⟨E, [], [], ⟨by simp [keepF, h1, hm, h2], by simp [keepF, h1, hm, h2], rfl⟩, perm_same⟩
      · rw [hlen] at h2
        obtain ⟨rr, hr⟩ := perm_set (r := r) (c := c) (E := E) (k := ⟨p, id⟩) (x := ⟨p, id, d, now⟩)
        exact ⟨_, [], rr, ⟨by simp only [keepF, if_neg h1, hm, if_neg h2], by simp only [keepF, if_neg h1, hm, if_neg h2, vals_aset], rfl⟩, hr⟩
    | some x =>
      obtain ⟨c, s⟩ := x
      have hm : alook (vals E) ⟨p, id⟩ = some s := by rw [alook_vals, h0]; rfl
      refine (keepS_some F' hf now p id d h0).mono ?_
      rintro v S (⟨h1, rfl, rfl⟩ | ⟨h1, rfl, c', rfl⟩)
      · exact ⟨E, [], [], ⟨by simp [keepF, h1], by simp [keepF, h1], rfl⟩, perm_same⟩
      · obtain ⟨rr, hr⟩ := perm_set (r := r) (c := c') (E := E) (k := ⟨p, id⟩) (x := ⟨p, id, keepD (some s.d) d, now⟩)
        exact ⟨_, [], rr, ⟨by simp only [keepF, if_neg h1, hm], by simp only [keepF, if_neg h1, hm, vals_aset], rfl⟩, hr⟩
  · rintro v S ⟨M', B, ⟨h1, rfl, rfl⟩, rfl⟩; exact ⟨h1, rfl⟩
theorem valsS (E : EntS) : E.map (·.2.2) = (vals E).map (·.2) := by simp [vals]
theorem lenE {E : EntS} : (vals E).length = E.length := by simp [vals]
theorem listT (F : Fr) {b : Nat} {most : Int} {M : TabM} (hM : M.length ≤ 1000000) : Spec Try.prog 15 #[.pointer (some ⟨b, 0, none⟩)] [Tab b most M] F
    fun v S => ∃ ys, ys.Perm (M.map (·.2)) ∧ SortedS ys ∧ S = [Tab b most M, slA 45 45 Source.enc v ys] := by
  refine Spec.mono (tab_spec (Q := fun v M' B => ∃ ys, ys.Perm (M.map (·.2)) ∧ SortedS ys ∧ M' = M ∧ B = [slA 45 45 Source.enc v ys]) fun F' r E hf hv hnd hle => ?_) ?_
  · subst hv
    refine (listS F' hf (by rw [lenE] at hM; exact hM)).mono ?_
    rintro v S ⟨ys, h1, h2, rfl⟩
    exact ⟨E, _, [], ⟨ys, by rw [← valsS]; exact h1, h2, rfl, rfl⟩, perm_same⟩
  · rintro v S ⟨M', B, ⟨ys, h1, h2, rfl, rfl⟩, rfl⟩; exact ⟨ys, h1, h2, rfl⟩
/-- Each source lies under its own pair and router. -/
def Keyed (M : TabM) : Prop := ∀ e ∈ M, e.1 = keyS e.2
def delsMS (now : Int) (M : TabM) (l : List Source) : TabM := l.foldl (fun M s => if oldS now s then adel M (keyS s) else M) M
theorem vals_dels (now : Int) (l : List Source) : ∀ E : EntS, vals (dels now E l) = delsMS now (vals E) l := by
  induction l with
  | nil => intro E; rfl
  | cons s l ih =>
    intro E
    simp only [dels, delsMS, List.foldl_cons]
    by_cases h : oldS now s = true
    · simp only [h, if_true]
      rw [← vals_adel]; exact ih _
    · simp only [h]
      exact ih _
theorem adel_filterS {K V : Type} [DecidableEq K] {M : List (K × V)} (hn : (M.map (·.1)).Nodup) (k : K) : adel M k = M.filter fun e => decide (e.1 ≠ k) := by
  induction M with
  | nil => rfl
  | cons e M ih =>
    obtain ⟨a, v⟩ := e
    simp only [List.map_cons, List.nodup_cons] at hn
    unfold adel
    by_cases h : a = k
    · subst h
      simp only [if_true, ne_eq, not_true_eq_false, decide_false, Bool.false_eq_true, not_false_eq_true, List.filter_cons_of_neg]
      refine (List.filter_eq_self.2 fun e he => ?_).symm
      simp only [decide_eq_true_eq]
      rintro rfl
      exact hn.1 (List.mem_map.2 ⟨e, he, rfl⟩)
    · simp [h, ih hn.2]
theorem nodup_filterS {K V : Type} {M : List (K × V)} (hn : (M.map (·.1)).Nodup) (p : K × V → Bool) : ((M.filter p).map (·.1)).Nodup := hn.sublist (List.filter_sublist.map _)
theorem delsM_filterS (now : Int) (l : List Source) : ∀ {M : TabM}, (M.map (·.1)).Nodup → delsMS now M l = M.filter fun e => !(l.any fun s => oldS now s && decide (keyS s = e.1)) := by
  induction l with
  | nil => intro M _; simp only [delsMS, List.foldl_nil, List.any_nil, Bool.not_false]; exact (List.filter_eq_self.2 fun _ _ => rfl).symm
  | cons s l ih =>
    intro M hn
    simp only [delsMS, List.foldl_cons]
    by_cases h : oldS now s = true
    · simp only [h, if_true]
      have h1 := adel_filterS hn (keyS s)
      have hn' : ((adel M (keyS s)).map (·.1)).Nodup := by rw [h1]; exact nodup_filterS hn _
      have := ih hn'
      unfold delsMS at this
      rw [this, h1, List.filter_filter]
      congr 1
      funext e
      simp only [List.any_cons, h, Bool.true_and, Bool.not_or, ne_eq, decide_not]
      rw [Bool.and_comm]
      congr 2
      exact decide_eq_decide.2 eq_comm
    · have h' : oldS now s = false := by simpa using h
      simp only [h', Bool.false_eq_true, if_false]
      have := ih hn
      unfold delsMS at this
      rw [this]
      congr 1
      funext e
      simp [List.any_cons, h']
theorem key_uniqueS {M : TabM} (hn : (M.map (·.1)).Nodup) {a b : SourceKey × Source} (ha : a ∈ M) (hb : b ∈ M) (h : a.1 = b.1) : a = b := by
  obtain ⟨k, x⟩ := a
  obtain ⟨k', y⟩ := b
  simp only at h
  subst h
  have h1 := alook_mem_of_nodup hn ha
  have h2 := alook_mem_of_nodup hn hb
  rw [h1] at h2
  cases h2; rfl
theorem tick_filter {now : Int} {M : TabM} (hn : (M.map (·.1)).Nodup) (hk : Keyed M) {ys : List Source} (hp : ys.Perm (M.map (·.2))) : delsMS now M ys = M.filter fun e => !oldS now e.2 := by
  rw [delsM_filterS now ys hn]
  refine List.filter_congr fun e he => ?_
  congr 1
  cases ho : oldS now e.2 with
  | true =>
    rw [List.any_eq_true]
    exact ⟨e.2, hp.symm.subset (List.mem_map.2 ⟨e, he, rfl⟩), by simp [ho, (hk e he).symm]⟩
  | false =>
    rw [List.any_eq_false]
    intro s hs hc
    simp only [Bool.and_eq_true, decide_eq_true_eq] at hc
    obtain ⟨e', he', rfl⟩ := List.mem_map.1 (hp.subset hs)
    have : e' = e := key_uniqueS hn he' he (by rw [hk e' he']; exact hc.2)
    subst this
    rw [ho] at hc
    cases hc.1
theorem tickT (F : Fr) {b : Nat} {most : Int} {M : TabM} (hM : M.length ≤ 1000000) (now : Int) (hn0 : 0 ≤ now) (hn1 : now ≤ 2305843009213693952) (hk : Keyed M) (hT : ∀ e ∈ M, 0 ≤ e.2.at_ ∧ e.2.at_ ≤ 2305843009213693952) :
    Spec Try.prog 12 #[.pointer (some ⟨b, 0, none⟩), .int .i64 now] [Tab b most M] F
    fun v S => ∃ ys, ys.Perm (M.map (·.2)) ∧ SortedS ys ∧ S = [Tab b most (M.filter fun e => !oldS now e.2), slA 45 45 Source.enc v (ys.filter (oldS now))] := by
  refine Spec.mono (tab_spec (Q := fun v M' B => ∃ ys, ys.Perm (M.map (·.2)) ∧ SortedS ys ∧ M' = (M.filter fun e => !oldS now e.2) ∧ B = [slA 45 45 Source.enc v (ys.filter (oldS now))]) fun F' r E hf hv hnd hle => ?_) ?_
  · subst hv
    refine (tickS F' hf (by rw [lenE] at hM; exact hM) now hn0 hn1 (fun e he => hT (e.1, e.2.2) (List.mem_map.2 ⟨e, he, rfl⟩))).mono ?_
    rintro v S ⟨ys, h1, h2, rfl⟩
    have h1' : ys.Perm ((vals E).map (·.2)) := by rw [← valsS]; exact h1
    have hrows : ∀ l : List Source, ∀ E : EntS, ∃ rr, (rows Source.enc 45 E).Perm (rows Source.enc 45 (dels now E l) ++ rr) := by
      intro l
      induction l with
      | nil => intro E; exact ⟨[], by simp [dels]⟩
      | cons s l ih =>
        intro E
        simp only [dels, List.foldl_cons]
        by_cases h : oldS now s = true
        · simp only [h, if_true]
          obtain ⟨r1, p1⟩ := rows_adel Source.enc 45 E (keyS s)
          obtain ⟨r2, p2⟩ := ih (adel E (keyS s))
          exact ⟨r2 ++ r1, p1.trans (by rw [← List.append_assoc]; exact List.Perm.append_right _ p2)⟩
        · simp only [h]
          exact ih E
    obtain ⟨rr, hrr⟩ := hrows ys E
    refine ⟨dels now E ys, _, rr, ⟨ys, h1', h2, by rw [vals_dels]; exact tick_filter hnd hk h1', rfl⟩, ?_⟩
    simp only [List.cons_append, List.nil_append]
    refine List.Perm.cons _ ?_
    refine (List.Perm.cons _ hrr).trans ?_
    exact List.perm_middle.symm
  · rintro v S ⟨M', B, ⟨ys, h1, h2, rfl, rfl⟩, rfl⟩; exact ⟨ys, h1, h2, rfl⟩
theorem nextT_empty (F : Fr) {b : Nat} {most : Int} : Spec Try.prog 16 #[.pointer (some ⟨b, 0, none⟩)] [Tab b most []] F fun v S => v = .tuple #[.int .i64 0, .bool false] ∧ S = [Tab b most []] := by
  refine Spec.mono (tab_spec (Q := fun v M' B => v = .tuple #[.int .i64 0, .bool false] ∧ M' = [] ∧ B = []) fun F' r E hf hv hnd hle => ?_) ?_
  · have hE : E = [] := by simpa [vals] using hv
    refine (nextS_empty F' hf hE).mono ?_
    rintro v S ⟨rfl, rfl⟩
    exact ⟨E, [], [], ⟨rfl, hv, rfl⟩, perm_same⟩
  · rintro v S ⟨M', B, ⟨h1, rfl, rfl⟩, rfl⟩; exact ⟨h1, rfl⟩
end Slb
