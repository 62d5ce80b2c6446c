/- Q5: a part of the proof that a law of this package holds for every input; no condition. -/
import Derived.Test.YtgelmgaackblcaaQ4
namespace Slb
open Go Go.Proofs
set_option maxRecDepth 20000
/-- A table, its requests, whatever blocks they lie in. -/
def QTab (b : Nat) (most : Int) (M : TabQ) : HProp := fun h => ∃ r E, vals E = M ∧ stars (blk b (RequestTable.enc ⟨most, some r⟩) 70 :: mapQ r (ptrs E) :: rows Pending.enc 67 E) h
theorem qtab_spec {f : FuncId} {args : Array Value} {A : List HProp} {F : Fr} {b : Nat} {most : Int} {M : TabQ} {Q : Value → TabQ → List HProp → Prop}
    (h : ∀ F' r E, InQ F' b r most E → vals E = M → (M.map (·.1)).Nodup → PH.le F.h F'.h → Spec Try.prog f args (mapQ r (ptrs E) :: A) F' fun v S => ∃ E' B rr, Q v (vals E') B ∧ (S ++ rows Pending.enc 67 E).Perm (mapQ r (ptrs E') :: (rows Pending.enc 67 E' ++ (B ++ rr)))) :
    Spec Try.prog f args (QTab b most M :: A) F fun v S => ∃ M' B, Q v M' B ∧ S = QTab b most M' :: B := fun w s => by
  obtain ⟨p, ⟨r, E, hv, hst⟩, back⟩ := s.unpack
  have s1 := back _ hst
  have hnd : (M.map (·.1)).Nodup := by
    have := s1.mapNodup (M := ptrs E) (r := r) (ek := fun x => .agg (RequestKey.enc x).toArray) (ev := pv) (List.mem_append_left _ (List.mem_cons_of_mem _ List.mem_cons_self))
    rw [keys_ptrs] at this
    rw [← hv, keys_vals]; exact this
  have hperm : ((blk b (RequestTable.enc ⟨most, some r⟩) 70 :: mapQ r (ptrs E) :: rows Pending.enc 67 E) ++ A).Perm ((mapQ r (ptrs E) :: A) ++ (blk b (RequestTable.enc ⟨most, some r⟩) 70 :: rows Pending.enc 67 E)) := by
    refine (List.Perm.swap _ _ _).trans (List.Perm.cons _ ?_)
    refine (List.Perm.cons _ List.perm_append_comm).trans ?_
    exact List.perm_middle.symm
  have hl := Spec.lend (P := Try.prog) (f := f) (args := args) (F := F) (m := mapQ r (ptrs E) :: A) (r := blk b (RequestTable.enc ⟨most, some r⟩) 70 :: rows Pending.enc 67 E) (fun F' hle hr => h F' r E ⟨hr _ _ List.mem_cons_self, rows_frame hr fun A hA => List.mem_cons_of_mem _ hA⟩ hv hnd hle)
  refine (hl w (s1.perm hperm)).mono ?_
  rintro e w' ⟨v, S, he, ⟨S1, ⟨E', B, rr, hQ, hp⟩, rfl⟩, s2⟩
  refine ⟨v, _, he, ⟨vals E', B, hQ, rfl⟩, ?_⟩
  have hp2 : (S1 ++ (blk b (RequestTable.enc ⟨most, some r⟩) 70 :: rows Pending.enc 67 E)).Perm (((blk b (RequestTable.enc ⟨most, some r⟩) 70 :: mapQ r (ptrs E') :: rows Pending.enc 67 E') ++ B) ++ rr) := by
    refine List.perm_middle.trans (List.Perm.cons _ ?_)
    simpa [List.append_assoc] using hp
  exact (Sat.dropP hp2 s2).pack fun p hp => ⟨r, E', rfl, hp⟩
theorem permQ_same {r : Nat} {E : EntQ} {S : List HProp} : ((mapQ r (ptrs E) :: S) ++ rows Pending.enc 67 E).Perm (mapQ r (ptrs E) :: (rows Pending.enc 67 E ++ (S ++ []))) := by
  simp only [List.cons_append, List.append_nil]
  exact List.Perm.cons _ List.perm_append_comm
theorem permQ_set {r c : Nat} {E : EntQ} {k : RequestKey} {x : Pending} : ∃ rr, ([mapQ r (aset (ptrs E) k c), blk c x.enc 67] ++ rows Pending.enc 67 E).Perm (mapQ r (ptrs (aset E k (c, x))) :: (rows Pending.enc 67 (aset E k (c, x)) ++ ([] ++ rr))) := by
  obtain ⟨rr, hr⟩ := rows_aset Pending.enc 67 E k c x
  refine ⟨rr, ?_⟩
  rw [ptrs_aset]
  exact List.Perm.cons _ hr
theorem permQ_del {r : Nat} {E : EntQ} {k : RequestKey} : ∃ rr, ([mapQ r (adel (ptrs E) k)] ++ rows Pending.enc 67 E).Perm (mapQ r (ptrs (adel E k)) :: (rows Pending.enc 67 (adel E k) ++ ([] ++ rr))) := by
  obtain ⟨rr, hr⟩ := rows_adel Pending.enc 67 E k
  refine ⟨rr, ?_⟩
  rw [ptrs_adel]
  exact List.Perm.cons _ hr
theorem newQT (F : Fr) (most : Int) : Spec Try.prog 10 #[.int .i64 most] [] F fun v S => ∃ b, v = .pointer (some ⟨b, 0, none⟩) ∧ S = [QTab b most []] :=
  (newQ F most).post fun v S1 w ⟨b, r, h1, h2⟩ s => ⟨_, ⟨b, h1, rfl⟩, by
    subst h2
    refine Sat.pack (r := []) (m := [blk b (RequestTable.enc ⟨most, some r⟩) 70, mapQ r []]) s fun p hp => ⟨r, [], rfl, hp⟩⟩
theorem lenQ {E : EntQ} : (vals E).length = E.length := by simp [vals]
def askF (most : Int) (M : TabQ) (now : Int) (p : Pair) (id : Bs 8) (q : Int) : Bool × Int × TabQ :=
  match alook M ⟨p, id⟩ with
  | none => if (M.length : Int) ≥ most then (false, 6, M) else (true, 0, aset M ⟨p, id⟩ ⟨p, id, q, 1, now + 2000⟩)
  | some s => if lessB s.seqno q then (true, 0, aset M ⟨p, id⟩ ⟨p, id, q, 1, now + 2000⟩) else (false, 0, M)
theorem askT (F : Fr) {b : Nat} {most : Int} {M : TabQ} (now : Int) (hn0 : 0 ≤ now) (hn1 : now ≤ 2305843009213693952) (p : Pair) (id : Bs 8) (q : Int) :
    Spec Try.prog 11 #[.pointer (some ⟨b, 0, none⟩), .int .i64 now, .agg (Pair.enc p).toArray, .agg (Bs.enc id).toArray, .int .u16 q] [QTab b most M] F
    fun v S => v = .tuple #[.bool (askF most M now p id q).1, .int .i64 (askF most M now p id q).2.1] ∧ S = [QTab b most (askF most M now p id q).2.2] := by
  refine Spec.mono (qtab_spec (Q := fun v M' B => v = .tuple #[.bool (askF most M now p id q).1, .int .i64 (askF most M now p id q).2.1] ∧ M' = (askF most M now p id q).2.2 ∧ B = []) fun F' r E hf hv hnd hle => ?_) ?_
  · subst hv
    have hlen : (ptrs E).length = (vals E).length := by simp [ptrs, vals]
    cases h0 : alook E ⟨p, id⟩ with
    | none =>
      have hm : alook (vals E) ⟨p, id⟩ = none := by rw [alook_vals, h0]; rfl
      refine (askQ_none F' hf now hn0 hn1 p id q h0).mono ?_
      rintro v S (⟨h1, rfl, rfl⟩ | ⟨h1, rfl, c, rfl⟩)
      · rw [hlen] at h1
        exact ⟨E, [], [], ⟨by simp only [askF, hm, if_pos h1], by simp only [askF, hm, if_pos h1], rfl⟩, permQ_same⟩
      · rw [hlen] at h1
        obtain ⟨rr, hr⟩ := permQ_set (r := r) (c := c) (E := E) (k := ⟨p, id⟩) (x := ⟨p, id, q, 1, now + 2000⟩)
        exact ⟨_, [], rr, ⟨by simp only [askF, hm, if_neg h1], by simp only [askF, hm, if_neg h1, vals_aset], rfl⟩, hr⟩
    | some x =>
      obtain ⟨c, s⟩ := x
      have hm : alook (vals E) ⟨p, id⟩ = some s := by rw [alook_vals, h0]; rfl
      refine (askQ_some F' hf now hn0 hn1 p id q h0).mono ?_
      rintro v S (⟨h1, rfl, rfl⟩ | ⟨h1, rfl, c', rfl⟩)
      · exact ⟨E, [], [], ⟨by simp [askF, hm, h1], by simp [askF, hm, h1], rfl⟩, permQ_same⟩
      · obtain ⟨rr, hr⟩ := permQ_set (r := r) (c := c') (E := E) (k := ⟨p, id⟩) (x := ⟨p, id, q, 1, now + 2000⟩)
        exact ⟨_, [], rr, ⟨by simp [askF, hm, h1], by simp [askF, hm, h1, vals_aset], rfl⟩, hr⟩
  · rintro v S ⟨M', B, ⟨h1, rfl, rfl⟩, rfl⟩; exact ⟨h1, rfl⟩
def metF (M : TabQ) (p : Pair) (id : Bs 8) (d : Distance) : Bool × TabQ :=
  match alook M ⟨p, id⟩ with
  | none => (false, M)
  | some s => if meetsB d s.seqno then (true, adel M ⟨p, id⟩) else (false, M)
theorem metT (F : Fr) {b : Nat} {most : Int} {M : TabQ} (p : Pair) (id : Bs 8) (d : Distance) :
    Spec Try.prog 15 #[.pointer (some ⟨b, 0, none⟩), .agg (Pair.enc p).toArray, .agg (Bs.enc id).toArray, .agg (Distance.enc d).toArray] [QTab b most M] F
    fun v S => v = .bool (metF M p id d).1 ∧ S = [QTab b most (metF M p id d).2] := by
  refine Spec.mono (qtab_spec (Q := fun v M' B => v = .bool (metF M p id d).1 ∧ M' = (metF M p id d).2 ∧ B = []) fun F' r E hf hv hnd hle => ?_) ?_
  · subst hv
    cases h0 : alook E ⟨p, id⟩ with
    | none =>
      have hm : alook (vals E) ⟨p, id⟩ = none := by rw [alook_vals, h0]; rfl
      refine (metQ_none F' hf p id d h0).mono ?_
      rintro v S ⟨rfl, rfl⟩
      exact ⟨E, [], [], ⟨by simp [metF, hm], by simp [metF, hm], rfl⟩, permQ_same⟩
    | some x =>
      obtain ⟨c, s⟩ := x
      have hm : alook (vals E) ⟨p, id⟩ = some s := by rw [alook_vals, h0]; rfl
      refine (metQ_some F' hf p id d h0).mono ?_
      rintro v S (⟨h1, rfl, rfl⟩ | ⟨h1, rfl, rfl⟩)
      · exact ⟨E, [], [], ⟨by simp [metF, hm, h1], by simp [metF, hm, h1], rfl⟩, permQ_same⟩
      · obtain ⟨rr, hr⟩ := permQ_del (r := r) (E := E) (k := ⟨p, id⟩)
        exact ⟨_, [], rr, ⟨by simp [metF, hm, h1], by simp [metF, hm, h1, vals_adel], rfl⟩, hr⟩
  · rintro v S ⟨M', B, ⟨h1, rfl, rfl⟩, rfl⟩; exact ⟨h1, rfl⟩
theorem listQT (F : Fr) {b : Nat} {most : Int} {M : TabQ} (hM : M.length ≤ 1000000) : Spec Try.prog 13 #[.pointer (some ⟨b, 0, none⟩)] [QTab b most M] F
    fun v S => ∃ ys, ys.Perm (M.map (·.2)) ∧ SortedQ ys ∧ S = [QTab b most M, slA 67 45 Pending.enc v ys] := by
  refine Spec.mono (qtab_spec (Q := fun v M' B => ∃ ys, ys.Perm (M.map (·.2)) ∧ SortedQ ys ∧ M' = M ∧ B = [slA 67 45 Pending.enc v ys]) fun F' r E hf hv hnd hle => ?_) ?_
  · subst hv
    refine (listQ F' hf (by rw [lenQ] at hM; exact hM)).mono ?_
    rintro v S ⟨ys, h1, h2, rfl⟩
    exact ⟨E, _, [], ⟨ys, by have e : E.map (·.2.2) = (vals E).map (·.2) := by simp [vals]
                             rw [← e]; exact h1, h2, rfl, rfl⟩, permQ_same⟩
  · rintro v S ⟨M', B, ⟨ys, h1, h2, rfl, rfl⟩, rfl⟩; exact ⟨ys, h1, h2, rfl⟩
theorem permQ_tick {m a b : HProp} {E Nw Ec rr : List HProp} (h : (E ++ Nw).Perm (Ec ++ rr)) : ((Nw ++ [m, a, b]) ++ E).Perm (m :: (Ec ++ ([a, b] ++ rr))) := by
  have h1 : ((Nw ++ [m, a, b]) ++ E).Perm ([m, a, b] ++ (E ++ Nw)) := by
    rw [List.append_assoc, ← List.append_assoc [m, a, b] E Nw]
    exact List.perm_append_comm
  refine (h1.trans (List.Perm.append_left [m, a, b] h)).trans ?_
  refine List.Perm.cons m ?_
  show ([a, b] ++ (Ec ++ rr)).Perm (Ec ++ ([a, b] ++ rr))
  rw [← List.append_assoc, ← List.append_assoc]
  exact List.Perm.append_right rr List.perm_append_comm
theorem tickQT (F : Fr) {b : Nat} {most : Int} {M : TabQ} (hM : M.length ≤ 1000000) (now : Int) (hn0 : 0 ≤ now) (hn1 : now ≤ 2305843009213693952) (hT : ∀ e ∈ M, OkQ e.2) :
    Spec Try.prog 12 #[.pointer (some ⟨b, 0, none⟩), .int .i64 now] [QTab b most M] F
    fun v S => ∃ ys va vg, v = .tuple #[va, vg] ∧ ys.Perm (M.map (·.2)) ∧ SortedQ ys ∧ S = [QTab b most (tickQ now M ys).1, slA 67 45 Pending.enc va (tickQ now M ys).2.1, slA 67 45 Pending.enc vg (tickQ now M ys).2.2] := by
  refine Spec.mono (qtab_spec (Q := fun v M' B => ∃ ys va vg, v = .tuple #[va, vg] ∧ ys.Perm (M.map (·.2)) ∧ SortedQ ys ∧ M' = (tickQ now M ys).1 ∧ B = [slA 67 45 Pending.enc va (tickQ now M ys).2.1, slA 67 45 Pending.enc vg (tickQ now M ys).2.2]) fun F' r E hf hv hnd hle => ?_) ?_
  · subst hv
    refine (tickQ_spec F' hf (by rw [lenQ] at hM; exact hM) now hn0 hn1 (fun e he => hT (e.1, e.2.2) (List.mem_map.2 ⟨e, he, rfl⟩))).post ?_
    rintro v S w ⟨ys, va, vg, Ec, Nw, rfl, h1, h2, h3, ⟨rr, h4⟩, rfl⟩ s
    refine ⟨rows Pending.enc 67 Nw ++ [mapQ r (ptrs Ec), slA 67 45 Pending.enc va (tickQ now (vals E) ys).2.1, slA 67 45 Pending.enc vg (tickQ now (vals E) ys).2.2], ⟨Ec, _, rr, ⟨ys, va, vg, rfl, ?_, h2, h3, rfl⟩, permQ_tick h4⟩, ?_⟩
    · have e : E.map (·.2.2) = (vals E).map (·.2) := by simp [vals]
      rw [← e]; exact h1
    · refine Sat.flat (s.perm ?_)
      exact (List.perm_append_comm (l₁ := [mapQ r (ptrs Ec), slA 67 45 Pending.enc va (tickQ now (vals E) ys).2.1, slA 67 45 Pending.enc vg (tickQ now (vals E) ys).2.2]) (l₂ := [rowsA Pending.enc 67 Nw]))
  · rintro v S ⟨M', B, ⟨ys, va, vg, h1, h2, h3, rfl, rfl⟩, rfl⟩; exact ⟨ys, va, vg, h1, h2, h3, rfl⟩
end Slb
