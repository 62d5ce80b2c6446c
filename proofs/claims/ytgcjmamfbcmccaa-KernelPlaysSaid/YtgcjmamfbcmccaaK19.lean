/- K19: a part of the proof that a law of this package holds for every input; no condition. -/
import Derived.Test.YtgcjmamfbcmccaaK18
import Derived.Test.YtgcjmamfbcmccaaB33
namespace Slb
open Go Go.Proofs
set_option maxRecDepth 20000
structure KN (M : TabE) : Prop where
  keyed : ∀ e ∈ M, e.1 = e.2.pair
  nodup : (M.map (·.1)).Nodup
theorem KN.nil : KN [] := ⟨by simp, by simp⟩
theorem KN.ord {M : TabE} (h : KN M) : ∃ L, OrdE M L := ord_ex keyCmpE M.length rfl h.keyed h.nodup
theorem mem_adel {V : Type} {M : List (Pair × V)} {k : Pair} {e : Pair × V} (h : e ∈ adel M k) : e ∈ M := by
  cases hq : alook M k with
  | none => rw [adel_none hq] at h; exact h
  | some v =>
    obtain ⟨A, B, rfl, hA⟩ := alook_split hq
    rw [adel_split hA] at h
    rcases List.mem_append.1 h with h | h
    · exact List.mem_append_left _ h
    · exact List.mem_append_right _ (List.mem_cons_of_mem _ h)
theorem KN.set {M : TabE} (h : KN M) (e : Entry) : KN (aset M e.pair e) := ⟨InOrder.keyed_set rfl h.keyed, nodup_set h.nodup _ _⟩
theorem KN.del {M : TabE} (h : KN M) (k : Pair) : KN (adel M k) := ⟨fun e he => h.keyed e (mem_adel he), nodup_adel h.nodup k⟩
theorem adel_len {M : TabE} (k : Pair) : (adel M k).length ≤ M.length := by
  cases hq : alook M k with
  | none => rw [adel_none hq]; exact Nat.le_refl _
  | some v => obtain ⟨A, B, rfl, hA⟩ := alook_split hq; rw [adel_split hA]; simp
theorem aset_len1 {M : TabE} (k : Pair) (v : Entry) : (aset M k v).length ≤ M.length + 1 := by
  cases hq : alook M k with
  | none => rw [aset_none hq]; simp
  | some u => obtain ⟨A, B, rfl, hA⟩ := alook_split hq; rw [aset_split hA]; simp
noncomputable def ordL (M : TabE) : List Entry := by
  classical exact if h : ∃ L, OrdE M L then Classical.choose h else []
theorem KN.ordL {M : TabE} (h : KN M) : OrdE M (ordL M) := by
  unfold Slb.ordL
  rw [dif_pos h.ord]
  exact Classical.choose_spec h.ord
theorem ordE_uniq {M : TabE} {L L' : List Entry} (h : OrdE M L) (h' : OrdE M L') : L' = L := InOrder.uniq keyCmpE h h'.perm (h'.sort.imp fun {a b} hab hba => by have := (keyCmpE.neg a b).1 hab; omega)
theorem ordL_eq {M : TabE} {L : List Entry} (h : OrdE M L) : Slb.ordL M = L := ordE_uniq h (KN.ordL ⟨h.keyed, h.nodup⟩)
theorem ordL_nil : ordL [] = [] := ordL_eq (InOrder.nil : OrdE [] [])
/-- A kernel, whole. -/
structure KS where
  n : Int
  M1 : TabE
  M2 : TabE
def KerL (b : Nat) (s : KS) (x : Nat × Nat) : List HProp := [blk b (KernelKernel.enc ⟨some x.1, some x.2, s.n⟩) 64, mapE x.1 s.M1, mapE x.2 s.M2]
def KerA (b : Nat) (s : KS) : HProp := ex fun x : Nat × Nat => stars (KerL b s x)
theorem kerA_open {b : Nat} {s : KS} (p : PH) (h : KerA b s p) : ∃ x, stars (KerL b s x) p := h
theorem kerA_mk {b : Nat} {n : Int} {M1 M2 : TabE} {r1 r2 : Nat} (p : PH) (h : stars [blk b (KernelKernel.enc ⟨some r1, some r2, n⟩) 64, mapE r1 M1, mapE r2 M2] p) : KerA b ⟨n, M1, M2⟩ p := ⟨(r1, r2), h⟩
abbrev fp (b : Nat) : Value := .pointer (some ⟨b, 0, none⟩)
structure KOk (s : KS) (i : Nat) : Prop where
  h1 : KN s.M1
  h2 : KN s.M2
  l1 : s.M1.length ≤ i
  l2 : s.M2.length ≤ i
  n0 : 0 ≤ s.n
  n1 : s.n ≤ 9223372036854775807
  dis : ∀ p, (alook s.M1 p).isSome = true → alook s.M2 p = none
theorem KOk.new : KOk ⟨0, [], []⟩ 0 := ⟨KN.nil, KN.nil, Nat.le_refl _, Nat.le_refl _, by decide, by decide, fun p h => by cases h⟩
theorem KOk.mono {s : KS} {i j : Nat} (h : KOk s i) (hij : i ≤ j) : KOk s j := ⟨h.h1, h.h2, Nat.le_trans h.l1 hij, Nat.le_trans h.l2 hij, h.n0, h.n1, h.dis⟩
theorem KOk.fail {s : KS} {i : Nat} (h : KOk s i) {m : Int} (hm : m ≤ 9223372036854775807) : KOk ⟨if 0 > m then 0 else m, s.M1, s.M2⟩ i := ⟨h.h1, h.h2, h.l1, h.l2, by show 0 ≤ if 0 > m then 0 else m; split <;> omega, by show (if 0 > m then 0 else m) ≤ _; split <;> omega, h.dis⟩
theorem alook_asetK (M : TabE) (k k' : Pair) (v : Entry) : alook (aset M k v) k' = if k = k' then some v else alook M k' := by
  split
  · rename_i h; subst h; exact alook_aset_self _ _ _
  · rename_i h; exact alook_aset_ne h
theorem KOk.imp {s : KS} {i : Nat} (h : KOk s i) (e : Entry) : KOk ⟨s.n, s.M1, impK s.M1 s.M2 e⟩ (i + 1) := by
  refine ⟨h.h1, ?_, Nat.le_succ_of_le h.l1, ?_, h.n0, h.n1, fun p hp => ?_⟩
  · unfold impK; split
    · exact h.h2.set e
    · exact h.h2
  · unfold impK; split
    · exact Nat.le_trans (aset_len1 _ _) (Nat.succ_le_succ h.l2)
    · exact Nat.le_succ_of_le h.l2
  · show alook (impK s.M1 s.M2 e) p = none
    cases hq : impOk s.M1 s.M2 e with
    | false => rw [impK_no hq]; exact h.dis p hp
    | true =>
      rw [impK_yes hq, alook_asetK]
      unfold impOk at hq
      simp only [Bool.and_eq_true, Bool.not_eq_true'] at hq
      split
      · rename_i he; subst he; exact absurd hp (by rw [show (KS.mk s.n s.M1 (impK s.M1 s.M2 e)).M1 = s.M1 from rfl, hq.1]; simp)
      · exact h.dis p hp
theorem impK_twice (M1 M2 : TabE) (e : Entry) : impK M1 (impK M1 M2 e) e = impK M1 M2 e := by
  cases hq : impOk M1 M2 e with
  | false => rw [impK_no hq, impK_no hq]
  | true =>
    rw [impK_yes hq]
    refine impK_no ?_
    unfold impOk
    rw [alook_aset_self]
    simp
theorem KOk.act {s : KS} {i : Nat} (h : KOk s i) (o : Op) : KOk ⟨(doK s.n s.M1 s.M2 o).2.1, (doK s.n s.M1 s.M2 o).2.2, s.M2⟩ (i + 1) := by
  have h0 := h.n0
  have h1 := h.n1
  have hdel : ∀ p, (alook (adel s.M1 o.entry.pair) p).isSome = true → (alook s.M1 p).isSome = true := fun p hp => by
    obtain ⟨v, hv⟩ := Option.isSome_iff_exists.1 hp
    have hm := mem_adel (alook_some hv)
    rw [alook_mem_of_nodup h.h1.nodup hm]; rfl
  unfold doK
  split
  · exact ⟨h.h1, h.h2, Nat.le_succ_of_le h.l1, Nat.le_succ_of_le h.l2, by show 0 ≤ s.n - 1; omega, by show s.n - 1 ≤ _; omega, h.dis⟩
  · split
    · split
      · rename_i hc
        refine ⟨h.h1.set o.entry, h.h2, Nat.le_trans (aset_len1 _ _) (Nat.succ_le_succ h.l1), Nat.le_succ_of_le h.l2, h0, h1, fun p hp => ?_⟩
        have hp2 : (alook (aset s.M1 o.entry.pair o.entry) p).isSome = true := hp
        rw [alook_asetK] at hp2
        split at hp2
        · rename_i he
          subst he
          rcases hc with ⟨_, _, hc⟩ | ⟨_, hc⟩
          · show alook s.M2 o.entry.pair = none
            cases hq : alook s.M2 o.entry.pair with
            | none => rfl
            | some v => rw [hq] at hc; cases hc
          · exact h.dis _ hc
        · exact h.dis p hp2
      · split
        · exact ⟨h.h1.del _, h.h2, Nat.le_trans (adel_len _) (Nat.le_succ_of_le h.l1), Nat.le_succ_of_le h.l2, h0, h1, fun p hp => h.dis p (hdel p hp)⟩
        · exact ⟨h.h1, h.h2, Nat.le_succ_of_le h.l1, Nat.le_succ_of_le h.l2, h0, h1, h.dis⟩
    · exact ⟨h.h1, h.h2, Nat.le_succ_of_le h.l1, Nat.le_succ_of_le h.l2, h0, h1, h.dis⟩
theorem look_same {s : KS} {i : Nat} (h : KOk s i) {D : List Entry} (hD : D.Perm (valsE s.M1 ++ valsE s.M2)) {src dst : Bs 16} {r : Entry × Bool} (hr : Best2 (ordL s.M1 ++ ordL s.M2) src dst r) : lookF D src dst = r := by
  have o1 := h.h1.ordL
  have o2 := h.h2.ordL
  have hm : ∀ x, x ∈ D ↔ x ∈ ordL s.M1 ++ ordL s.M2 := fun x => by
    rw [hD.mem_iff]
    unfold valsE
    rw [List.mem_append, List.mem_append, ← o1.perm.mem_iff, ← o2.perm.mem_iff]
  refine Best2.uniq (fun x hx y hy hp => ?_) ((look_best D src dst).mem hm) hr
  rcases List.mem_append.1 hx with hx | hx <;> rcases List.mem_append.1 hy with hy | hy
  · exact o1.inj hx hy hp
  · have h1 := o1.mem.1 hx
    have h2 := o2.mem.1 hy
    have := h.dis x.pair (by rw [h1]; rfl)
    rw [hp, h2] at this; cases this
  · have h1 := o1.mem.1 hy
    have h2 := o2.mem.1 hx
    have := h.dis y.pair (by rw [h1]; rfl)
    rw [← hp, h2] at this; cases this
  · exact o2.inj hx hy hp
theorem newKA (F : Fr) : Spec Try.prog 9 #[] [] F (fun v S => ∃ b, v = fp b ∧ S = [KerA b ⟨0, [], []⟩]) :=
  Spec.post (newK F) fun v S1 w ⟨b, r1, r2, h1, h2⟩ s => ⟨_, ⟨b, h1, rfl⟩, by subst h2; exact Sat.pack1 s kerA_mk⟩
theorem doA (F : Fr) {b : Nat} {s : KS} (hn : 0 ≤ s.n ∧ s.n ≤ 9223372036854775807) (o : Op) : Spec Try.prog 16 #[fp b, .agg (Op.enc o).toArray] [KerA b s] F (fun v S => v = .bool (doK s.n s.M1 s.M2 o).1 ∧ S = [KerA b ⟨(doK s.n s.M1 s.M2 o).2.1, (doK s.n s.M1 s.M2 o).2.2, s.M2⟩]) := by
  refine Spec.open kerA_open fun ⟨r1, r2⟩ => ?_
  refine Spec.post (do_spec F hn o) ?_
  rintro v _ w ⟨e, rfl⟩ s1
  exact ⟨_, ⟨e, rfl⟩, Sat.pack1 s1 kerA_mk⟩
theorem failA (F : Fr) {b : Nat} {s : KS} (m : Int) : Spec Try.prog 12 #[fp b, .int .i64 m] [KerA b s] F (fun v S => v = .tuple #[] ∧ S = [KerA b ⟨if 0 > m then 0 else m, s.M1, s.M2⟩]) := by
  refine Spec.open kerA_open fun ⟨r1, r2⟩ => ?_
  refine Spec.part [blk b (KernelKernel.enc ⟨some r1, some r2, s.n⟩) 64] [mapE r1 s.M1, mapE r2 s.M2] (List.Perm.refl _) (fun F' hle hr => fail_spec F' m) ?_
  rintro v _ w ⟨e, rfl⟩ s1
  exact ⟨_, ⟨e, rfl⟩, Sat.pack1 s1 kerA_mk⟩
theorem importA (F : Fr) {b : Nat} {s : KS} {a : Option Addr} {c : Nat} {xs : List Entry} (ha : ArgSl F a 51 Entry.enc xs) (hl : xs.length ≤ 50000) (hm : s.M2.length ≤ 50000) : Spec Try.prog 10 #[fp b, .slice a xs.length c] [KerA b s] F (fun v S => v = .int .i64 (((xs.foldl (impK s.M1) s.M2).length : Int) - s.M2.length) ∧ S = [KerA b ⟨s.n, s.M1, xs.foldl (impK s.M1) s.M2⟩]) := by
  refine Spec.open kerA_open fun ⟨r1, r2⟩ => ?_
  refine Spec.part [mapE r1 s.M1, mapE r2 s.M2] [blk b (KernelKernel.enc ⟨some r1, some r2, s.n⟩) 64] ?_ (fun F' hle hr => import_spec F' (r1 := r1) (r2 := r2) (n := s.n) ⟨hr _ _ List.mem_cons_self⟩ (ha.mono hle) hl hm) ?_
  · exact (List.perm_append_comm (l₁ := [blk b (KernelKernel.enc ⟨some r1, some r2, s.n⟩) 64]) (l₂ := [mapE r1 s.M1, mapE r2 s.M2]))
  rintro v _ w ⟨e, rfl⟩ s1
  refine ⟨_, ⟨e, rfl⟩, Sat.pack1 (m := [blk b (KernelKernel.enc ⟨some r1, some r2, s.n⟩) 64, mapE r1 s.M1, mapE r2 (xs.foldl (impK s.M1) s.M2)]) (s1.perm ?_) kerA_mk⟩
  exact (List.perm_append_comm (l₁ := [mapE r1 s.M1, mapE r2 (xs.foldl (impK s.M1) s.M2)]) (l₂ := [blk b (KernelKernel.enc ⟨some r1, some r2, s.n⟩) 64]))
theorem listA (F : Fr) {b i : Nat} {s : KS} (h : KOk s i) (hi : i ≤ 1000) : Spec Try.prog 17 #[fp b] [KerA b s] F (fun v S => S = [KerA b s, slA 38 51 Entry.enc v (ordL s.M1)]) := by
  refine Spec.open kerA_open fun ⟨r1, r2⟩ => ?_
  refine Spec.part [mapE r1 s.M1] [blk b (KernelKernel.enc ⟨some r1, some r2, s.n⟩) 64, mapE r2 s.M2] (List.Perm.swap _ _ _) (fun F' hle hr => list1_spec F' (r1 := r1) (r2 := r2) (n := s.n) ⟨hr _ _ List.mem_cons_self⟩ (Nat.le_trans h.l1 (by omega)) h.h1.ordL) ?_
  rintro v _ w rfl s1
  refine ⟨_, rfl, Sat.pack (m := KerL b s (r1, r2)) (r := [slA 38 51 Entry.enc v (ordL s.M1)]) (s1.perm ?_) kerA_mk⟩
  exact (List.Perm.cons _ (List.perm_append_comm (l₁ := [slA 38 51 Entry.enc v (ordL s.M1)]) (l₂ := [blk b (KernelKernel.enc ⟨some r1, some r2, s.n⟩) 64, mapE r2 s.M2]))).trans (List.Perm.swap _ _ _)
theorem importedA (F : Fr) {b i : Nat} {s : KS} (h : KOk s i) (hi : i ≤ 1000) : Spec Try.prog 11 #[fp b] [KerA b s] F (fun v S => S = [KerA b s, slA 38 51 Entry.enc v (ordL s.M2)]) := by
  refine Spec.open kerA_open fun ⟨r1, r2⟩ => ?_
  refine Spec.part [mapE r2 s.M2] [blk b (KernelKernel.enc ⟨some r1, some r2, s.n⟩) 64, mapE r1 s.M1] ((List.Perm.cons _ (List.Perm.swap _ _ _)).trans (List.Perm.swap _ _ _)) (fun F' hle hr => imported_spec F' (r1 := r1) (r2 := r2) (n := s.n) ⟨hr _ _ List.mem_cons_self⟩ (Nat.le_trans h.l2 (by omega)) h.h2.ordL) ?_
  rintro v _ w rfl s1
  refine ⟨_, rfl, Sat.pack (m := KerL b s (r1, r2)) (r := [slA 38 51 Entry.enc v (ordL s.M2)]) (s1.perm ?_) kerA_mk⟩
  exact (List.Perm.cons _ (List.perm_append_comm (l₁ := [slA 38 51 Entry.enc v (ordL s.M2)]) (l₂ := [blk b (KernelKernel.enc ⟨some r1, some r2, s.n⟩) 64, mapE r1 s.M1]))).trans ((List.Perm.swap _ _ _).trans (List.Perm.cons _ (List.Perm.swap _ _ _)))
theorem lookA (F : Fr) {b i : Nat} {s : KS} (h : KOk s i) (hi : i ≤ 1000) (src dst : Bs 16) : Spec Try.prog 19 #[fp b, .agg (Bs.enc src).toArray, .agg (Bs.enc dst).toArray] [KerA b s] F (fun v S => ∃ D : List Entry, D.Perm (valsE s.M1 ++ valsE s.M2) ∧ v = .tuple #[valE (lookF D src dst).1, .bool (lookF D src dst).2] ∧ S = [KerA b s]) := by
  refine Spec.open kerA_open fun ⟨r1, r2⟩ => ?_
  refine Spec.part [mapE r1 s.M1, mapE r2 s.M2] [blk b (KernelKernel.enc ⟨some r1, some r2, s.n⟩) 64] ?_ (fun F' hle hr => lookup_spec F' (r1 := r1) (r2 := r2) (n := s.n) ⟨hr _ _ List.mem_cons_self⟩ (Nat.le_trans h.l1 (by omega)) (Nat.le_trans h.l2 (by omega)) src dst) ?_
  · exact (List.perm_append_comm (l₁ := [blk b (KernelKernel.enc ⟨some r1, some r2, s.n⟩) 64]) (l₂ := [mapE r1 s.M1, mapE r2 s.M2]))
  rintro v _ w ⟨D, hD, e, rfl⟩ s1
  refine ⟨_, ⟨D, hD, e, rfl⟩, Sat.pack1 (m := KerL b s (r1, r2)) (s1.perm ?_) kerA_mk⟩
  exact (List.perm_append_comm (l₁ := [mapE r1 s.M1, mapE r2 s.M2]) (l₂ := [blk b (KernelKernel.enc ⟨some r1, some r2, s.n⟩) 64]))
end Slb
