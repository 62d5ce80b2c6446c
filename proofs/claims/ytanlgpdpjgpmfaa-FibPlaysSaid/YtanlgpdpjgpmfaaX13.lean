/- X13: a part of the proof that a law of this package holds for every input; no condition. -/
import Derived.Test.YtanlgpdpjgpmfaaX6
import Derived.Test.YtanlgpdpjgpmfaaX9
import Derived.Test.YtanlgpdpjgpmfaaX10
import Derived.Test.YtanlgpdpjgpmfaaM2
namespace Slb
open Go Go.Proofs
set_option maxRecDepth 20000
/-- A table by its entries' own keys. -/
structure KN (M : TabE) : Prop where
  keyed : ∀ e ∈ M, e.1 = e.2.pair
  nodup : (M.map (·.1)).Nodup
theorem KN.nil : KN [] := ⟨by simp, by simp⟩
theorem KN.ord {M : TabE} (h : KN M) : ∃ L, OrdE M L := ord_ex keyCmpE M.length rfl h.keyed h.nodup
theorem mem_adel {V : Type} {M : List (Pair × V)} {k : Pair} {e : Pair × V} (h : e ∈ adel M k) : e ∈ M := by
  cases hq : alook M k with
  | none => rw [adel_none hq] at h; exact h
  | some v =>
    obtain ⟨A, B, rfl, hA⟩ := alook_split hq
    rw [adel_split hA] at h
    rcases List.mem_append.1 h with h | h
    · exact List.mem_append_left _ h
    · exact List.mem_append_right _ (List.mem_cons_of_mem _ h)
theorem KN.set {M : TabE} (h : KN M) (e : Entry) : KN (aset M e.pair e) := ⟨InOrder.keyed_set rfl h.keyed, nodup_set h.nodup _ _⟩
theorem KN.del {M : TabE} (h : KN M) (k : Pair) : KN (adel M k) := ⟨fun e he => h.keyed e (mem_adel he), nodup_adel h.nodup k⟩
theorem KN.reply {M : TabE} (h : KN M) (o : Op) (ok : Bool) : KN (replyH M o ok) := by
  unfold replyH
  split
  · split
    · exact h.del _
    · exact h.set _
  · exact h
theorem KN.tab {M : TabE} {L : List Entry} (h : OrdE M L) : KN (tabOf L) := ⟨(tabOf_ord h).keyed, (tabOf_ord h).nodup⟩
theorem adel_len {M : TabE} (k : Pair) : (adel M k).length ≤ M.length := by
  cases hq : alook M k with
  | none => rw [adel_none hq]; exact Nat.le_refl _
  | some v => obtain ⟨A, B, rfl, hA⟩ := alook_split hq; rw [adel_split hA]; simp
theorem aset_len1 {M : TabE} (k : Pair) (v : Entry) : (aset M k v).length ≤ M.length + 1 := by
  cases hq : alook M k with
  | none => rw [aset_none hq]; simp
  | some u => obtain ⟨A, B, rfl, hA⟩ := alook_split hq; rw [aset_split hA]; simp
theorem replyH_len (M : TabE) (o : Op) (ok : Bool) : (replyH M o ok).length ≤ M.length + 1 := by
  unfold replyH
  split
  · split
    · exact Nat.le_succ_of_le (adel_len _)
    · exact aset_len1 _ _
  · exact Nat.le_succ _
/-- What a table holds, in order. -/
noncomputable def ordL (M : TabE) : List Entry := by
  classical exact if h : ∃ L, OrdE M L then Classical.choose h else []
theorem KN.ordL {M : TabE} (h : KN M) : OrdE M (ordL M) := by
  unfold Slb.ordL
  rw [dif_pos h.ord]
  exact Classical.choose_spec h.ord
theorem ordE_uniq {M : TabE} {L L' : List Entry} (h : OrdE M L) (h' : OrdE M L') : L' = L := InOrder.uniq keyCmpE h h'.perm (h'.sort.imp fun {a b} hab hba => by have := (keyCmpE.neg a b).1 hab; omega)
theorem ordL_eq {M : TabE} {L : List Entry} (h : OrdE M L) : Slb.ordL M = L := ordE_uniq h (KN.ordL ⟨h.keyed, h.nodup⟩)
/-- A Fib, whole. -/
structure FibS where
  H : TabE
  Wt : TabE
  Fl : TabI
  way : Option Op
noncomputable def FibS.todo (s : FibS) : List Op := todoL s.H s.Wt (ordL s.H) (ordL s.Wt)
structure FibS.Ok (s : FibS) : Prop where
  h : KN s.H
  w : KN s.Wt
  hl : s.H.length ≤ 100000
  wl : s.Wt.length ≤ 600000
def wayP (w : Option Addr) : Option Op → HProp
  | none => Slb.fact (w = none)
  | some o => ex fun bw => star (Slb.fact (w = some ⟨bw, 0, none⟩)) (blk bw (Op.enc o) 43)
def FibA (b : Nat) (s : FibS) : HProp := ex fun x : Nat × Nat × Nat × Option Addr => stars [blk b (FibFib.enc ⟨some x.1, some x.2.1, some x.2.2.1, x.2.2.2⟩) 81, mapE x.1 s.H, mapE x.2.1 s.Wt, mapI x.2.2.1 s.Fl, wayP x.2.2.2 s.way]
def FibN (b : Nat) (H Wt : TabE) (Fl : TabI) (x : Nat × Nat × Nat) : List HProp := [blk b (FibFib.enc ⟨some x.1, some x.2.1, some x.2.2, none⟩) 81, mapE x.1 H, mapE x.2.1 Wt, mapI x.2.2 Fl]
def FibY (b : Nat) (H Wt : TabE) (Fl : TabI) (o : Op) (x : Nat × Nat × Nat × Nat) : List HProp := [blk b (FibFib.enc ⟨some x.1, some x.2.1, some x.2.2.1, some ⟨x.2.2.2, 0, none⟩⟩) 81, mapE x.1 H, mapE x.2.1 Wt, mapI x.2.2.1 Fl, blk x.2.2.2 (Op.enc o) 43]
theorem fibA_none {b : Nat} {H Wt : TabE} {Fl : TabI} (p : PH) (h : FibA b ⟨H, Wt, Fl, none⟩ p) : ∃ x, stars (FibN b H Wt Fl x) p := by
  obtain ⟨⟨r1, r2, r3, w⟩, h⟩ := h
  have h1 := (stars_append (l := [blk b (FibFib.enc ⟨some r1, some r2, some r3, w⟩) 81, mapE r1 H, mapE r2 Wt, mapI r3 Fl]) (m := [wayP w none])).1 h
  obtain ⟨h3, h4, d, rfl, h5, h6⟩ := h1
  obtain ⟨rfl, rfl⟩ := stars_one.1 h6
  rw [PH.union_comm d, PH.none_union]
  exact ⟨(r1, r2, r3), h5⟩
theorem fibA_some {b : Nat} {H Wt : TabE} {Fl : TabI} {o : Op} (p : PH) (h : FibA b ⟨H, Wt, Fl, some o⟩ p) : ∃ x, stars (FibY b H Wt Fl o x) p := by
  obtain ⟨⟨r1, r2, r3, w⟩, h⟩ := h
  have h1 := (stars_append (l := [blk b (FibFib.enc ⟨some r1, some r2, some r3, w⟩) 81, mapE r1 H, mapE r2 Wt, mapI r3 Fl]) (m := [wayP w (some o)])).1 h
  obtain ⟨h3, h4, d, rfl, h5, h6⟩ := h1
  obtain ⟨bw, h7, h8, d2, rfl, ⟨rfl, rfl⟩, h9⟩ := stars_one.1 h6
  rw [PH.none_union] at d ⊢
  exact ⟨(r1, r2, r3, bw), stars_append.2 ⟨h3, h8, d, rfl, h5, stars_one.2 h9⟩⟩
theorem fibA_mkN {b : Nat} {H Wt : TabE} {Fl : TabI} {r1 r2 r3 : Nat} (p : PH) (h : stars [blk b (FibFib.enc ⟨some r1, some r2, some r3, none⟩) 81, mapE r1 H, mapE r2 Wt, mapI r3 Fl] p) : FibA b ⟨H, Wt, Fl, none⟩ p := by
  refine ⟨(r1, r2, r3, none), (stars_append (l := [blk b (FibFib.enc ⟨some r1, some r2, some r3, none⟩) 81, mapE r1 H, mapE r2 Wt, mapI r3 Fl]) (m := [wayP none none])).2 ⟨p, PH.none, (PH.none_disj p).symm, ?_, h, stars_one.2 ⟨rfl, rfl⟩⟩⟩
  rw [PH.union_comm (PH.none_disj p).symm, PH.none_union]
theorem fibA_mkY {b : Nat} {H Wt : TabE} {Fl : TabI} {o : Op} {r1 r2 r3 bw : Nat} (p : PH) (h : stars [blk b (FibFib.enc ⟨some r1, some r2, some r3, some ⟨bw, 0, none⟩⟩) 81, mapE r1 H, mapE r2 Wt, mapI r3 Fl, blk bw (Op.enc o) 43] p) : FibA b ⟨H, Wt, Fl, some o⟩ p := by
  obtain ⟨h3, h4, d, rfl, h5, h6⟩ := (stars_append (l := [blk b (FibFib.enc ⟨some r1, some r2, some r3, some ⟨bw, 0, none⟩⟩) 81, mapE r1 H, mapE r2 Wt, mapI r3 Fl]) (m := [blk bw (Op.enc o) 43])).1 h
  refine ⟨(r1, r2, r3, some ⟨bw, 0, none⟩), (stars_append (l := [blk b (FibFib.enc ⟨some r1, some r2, some r3, some ⟨bw, 0, none⟩⟩) 81, mapE r1 H, mapE r2 Wt, mapI r3 Fl]) (m := [wayP (some ⟨bw, 0, none⟩) (some o)])).2 ⟨h3, h4, d, rfl, h5, stars_one.2 ⟨bw, PH.none, h4, PH.none_disj h4, (PH.none_union h4).symm, ⟨rfl, rfl⟩, stars_one.1 h6⟩⟩⟩
noncomputable def FibS.next (s : FibS) (now : Int) : Option Op := match s.way with
  | none => s.todo.find? (dueB s.Fl now)
  | some _ => none
noncomputable def FibS.gone (s : FibS) (now : Int) : FibS := match s.next now with
  | none => s
  | some o => ⟨s.H, s.Wt, s.Fl, some o⟩
def FibS.told (s : FibS) (now : Int) (ok : Bool) : FibS := match s.way with
  | none => s
  | some o => ⟨replyH s.H o ok, s.Wt, replyF s.Fl now o ok, none⟩
noncomputable def FibS.dry (s : FibS) : Bool := s.way.isNone && decide (s.todo = [])
abbrev fp (b : Nat) : Value := .pointer (some ⟨b, 0, none⟩)
theorem newA (F : Fr) : Spec Try.prog 15 #[] [] F (fun v S => ∃ b, v = fp b ∧ S = [FibA b ⟨[], [], [], none⟩]) :=
  Spec.post (newX F) fun v S1 w ⟨b, r1, r2, r3, h1, h2⟩ s => ⟨_, ⟨b, h1, rfl⟩, by subst h2; exact Sat.pack1 s fibA_mkN⟩
theorem wantA (F : Fr) {b : Nat} (s : FibS) {a : Option Addr} {c : Nat} {xs : List Entry} (ha : ArgSl F a 51 Entry.enc xs) (hl : xs.length ≤ 700) : Spec Try.prog 16 #[fp b, .slice a xs.length c] [FibA b s] F (fun v S => ∃ L', v = .tuple #[] ∧ Expands xs L' ∧ S = [FibA b ⟨s.H, tabOf L', s.Fl, s.way⟩]) := by
  obtain ⟨H, Wt, Fl, way⟩ := s
  cases way with
  | none =>
    refine Spec.open fibA_none fun ⟨r1, r2, r3⟩ => ?_
    refine Spec.part [blk b (FibFib.enc ⟨some r1, some r2, some r3, none⟩) 81] [mapE r1 H, mapE r2 Wt, mapI r3 Fl] (List.Perm.refl _) (fun F' hle hr => want_spec F' (ha.mono hle) hl) ?_
    rintro v _ w ⟨r9, L', h1, h2, rfl⟩ s
    refine ⟨_, ⟨L', h1, h2, rfl⟩, ?_⟩
    have s2 : Sat [blk b (FibFib.enc ⟨some r1, some r9, some r3, none⟩) 81, mapE r1 H, mapE r9 (tabOf L'), mapI r3 Fl] F w := Sat.dropR (r := [mapE r2 Wt]) (s.perm (by
      simp only [List.cons_append, List.nil_append]
      refine List.Perm.cons _ ?_
      exact (List.Perm.swap _ _ _).trans (List.Perm.cons _ (List.Perm.cons _ (List.Perm.swap _ _ _)))))
    exact Sat.pack1 s2 fibA_mkN
  | some o =>
    refine Spec.open fibA_some fun ⟨r1, r2, r3, bw⟩ => ?_
    refine Spec.part [blk b (FibFib.enc ⟨some r1, some r2, some r3, some ⟨bw, 0, none⟩⟩) 81] [mapE r1 H, mapE r2 Wt, mapI r3 Fl, blk bw (Op.enc o) 43] (List.Perm.refl _) (fun F' hle hr => want_spec F' (ha.mono hle) hl) ?_
    rintro v _ w ⟨r9, L', h1, h2, rfl⟩ s
    refine ⟨_, ⟨L', h1, h2, rfl⟩, ?_⟩
    have s2 : Sat [blk b (FibFib.enc ⟨some r1, some r9, some r3, some ⟨bw, 0, none⟩⟩) 81, mapE r1 H, mapE r9 (tabOf L'), mapI r3 Fl, blk bw (Op.enc o) 43] F w := Sat.dropR (r := [mapE r2 Wt]) (s.perm (by
      simp only [List.cons_append, List.nil_append]
      refine List.Perm.cons _ ?_
      exact (List.Perm.swap _ _ _).trans (List.Perm.cons _ (List.Perm.cons _ ((List.Perm.swap _ _ _).trans (List.Perm.cons _ (List.Perm.swap _ _ _)))))))
    exact Sat.pack1 s2 fibA_mkY
theorem nextA (F : Fr) {b : Nat} {s : FibS} (hs : s.Ok) (now : Int) : Spec Try.prog 18 #[fp b, .int .i64 now] [FibA b s] F (fun v S => v = .tuple #[.agg (Op.enc ((s.next now).getD Op.zero)).toArray, .bool (s.next now).isSome] ∧ S = [FibA b (s.gone now)]) := by
  obtain ⟨H, Wt, Fl, way⟩ := s
  obtain ⟨h1, h2, h3, h4⟩ := hs
  cases way with
  | none =>
    refine Spec.open fibA_none fun ⟨r1, r2, r3⟩ => ?_
    refine Spec.post (next_spec F h3 h4 h1.ordL h2.ordL now) ?_
    rintro v _ w (⟨e1, e2, rfl⟩ | ⟨o, bw, e1, e2, rfl⟩) s
    · have hn : FibS.next ⟨H, Wt, Fl, none⟩ now = none := e1
      unfold FibS.gone
      rw [hn]
      exact ⟨_, ⟨e2, rfl⟩, Sat.pack1 s fibA_mkN⟩
    · have hn : FibS.next ⟨H, Wt, Fl, none⟩ now = some o := e1
      unfold FibS.gone
      rw [hn]
      exact ⟨_, ⟨e2, rfl⟩, Sat.pack1 s fibA_mkY⟩
  | some o =>
    refine Spec.open fibA_some fun ⟨r1, r2, r3, bw⟩ => ?_
    refine Spec.part [] (FibY b H Wt Fl o (r1, r2, r3, bw)) (List.Perm.refl _) (fun F' hle hr => next_busy F' (r1 := r1) (r2 := r2) (r3 := r3) (bw := bw) ⟨hr _ _ List.mem_cons_self⟩ now) ?_
    rintro v _ w ⟨e2, rfl⟩ s
    exact ⟨_, ⟨e2, rfl⟩, Sat.pack1 s fibA_mkY⟩
theorem replyA (F : Fr) {b : Nat} (s : FibS) (now : Int) (hn : -4611686018427387904 ≤ now ∧ now ≤ 4611686018427387904) (ok : Bool) : Spec Try.prog 21 #[fp b, .int .i64 now, .bool ok] [FibA b s] F (fun v S => v = .int .i64 (if s.way.isSome then 0 else 7) ∧ S = [FibA b (s.told now ok)]) := by
  obtain ⟨H, Wt, Fl, way⟩ := s
  cases way with
  | none =>
    refine Spec.open fibA_none fun ⟨r1, r2, r3⟩ => ?_
    refine Spec.part [] (FibN b H Wt Fl (r1, r2, r3)) (List.Perm.refl _) (fun F' hle hr => reply_none F' (r1 := r1) (r2 := r2) (r3 := r3) ⟨hr _ _ List.mem_cons_self⟩ now ok) ?_
    rintro v _ w ⟨e2, rfl⟩ s
    exact ⟨_, ⟨e2, rfl⟩, Sat.pack1 s fibA_mkN⟩
  | some o =>
    refine Spec.open fibA_some fun ⟨r1, r2, r3, bw⟩ => ?_
    refine Spec.part [blk b (FibFib.enc ⟨some r1, some r2, some r3, some ⟨bw, 0, none⟩⟩) 81, mapE r1 H, mapI r3 Fl, blk bw (Op.enc o) 43] [mapE r2 Wt] ?_ (fun F' hle hr => reply_spec F' now hn ok) ?_
    · refine List.Perm.cons _ (List.Perm.cons _ ?_)
      exact (List.Perm.swap _ _ _).trans (List.Perm.cons _ (List.Perm.swap _ _ _))
    rintro v _ w ⟨e2, rfl⟩ s
    refine ⟨_, ⟨e2, rfl⟩, Sat.pack1 (m := [blk b (FibFib.enc ⟨some r1, some r2, some r3, none⟩) 81, mapE r1 (replyH H o ok), mapE r2 Wt, mapI r3 (replyF Fl now o ok)]) (s.perm ?_) fibA_mkN⟩
    exact List.Perm.cons _ (List.Perm.cons _ (List.Perm.swap _ _ _))
theorem drainedA (F : Fr) {b : Nat} {s : FibS} (hs : s.Ok) : Spec Try.prog 25 #[fp b] [FibA b s] F (fun v S => v = .bool s.dry ∧ S = [FibA b s]) := by
  obtain ⟨H, Wt, Fl, way⟩ := s
  obtain ⟨h1, h2, h3, h4⟩ := hs
  cases way with
  | none =>
    refine Spec.open fibA_none fun ⟨r1, r2, r3⟩ => ?_
    refine Spec.part [mapE r1 H, mapE r2 Wt] [blk b (FibFib.enc ⟨some r1, some r2, some r3, none⟩) 81, mapI r3 Fl] ?_ (fun F' hle hr => drained_spec F' (r1 := r1) (r2 := r2) (r3 := r3) ⟨hr _ _ List.mem_cons_self⟩ h3 h4 h1.ordL h2.ordL) ?_
    · exact (List.Perm.swap _ _ _).trans (List.Perm.cons _ (List.Perm.swap _ _ _))
    rintro v _ w ⟨e2, rfl⟩ s
    refine ⟨_, ⟨e2, rfl⟩, Sat.pack1 (m := FibN b H Wt Fl (r1, r2, r3)) (s.perm ?_) fibA_mkN⟩
    exact (List.Perm.cons _ (List.Perm.swap _ _ _)).trans (List.Perm.swap _ _ _)
  | some o =>
    refine Spec.open fibA_some fun ⟨r1, r2, r3, bw⟩ => ?_
    refine Spec.part [] (FibY b H Wt Fl o (r1, r2, r3, bw)) (List.Perm.refl _) (fun F' hle hr => drained_busy F' (r1 := r1) (r2 := r2) (r3 := r3) (bw := bw) ⟨hr _ _ List.mem_cons_self⟩) ?_
    rintro v _ w ⟨e2, rfl⟩ s
    exact ⟨_, ⟨e2, rfl⟩, Sat.pack1 s fibA_mkY⟩
theorem hasA (F : Fr) {b : Nat} {s : FibS} (hs : s.Ok) : Spec Try.prog 27 #[fp b] [FibA b s] F (fun v S => S = [FibA b s, slA 41 51 Entry.enc v (ordL s.H)]) := by
  obtain ⟨H, Wt, Fl, way⟩ := s
  obtain ⟨h1, h2, h3, h4⟩ := hs
  cases way with
  | none =>
    refine Spec.open fibA_none fun ⟨r1, r2, r3⟩ => ?_
    refine Spec.part [mapE r1 H] [blk b (FibFib.enc ⟨some r1, some r2, some r3, none⟩) 81, mapE r2 Wt, mapI r3 Fl] (List.Perm.swap _ _ _) (fun F' hle hr => has_spec F' (r1 := r1) (r2 := r2) (r3 := r3) ⟨hr _ _ List.mem_cons_self⟩ (Nat.le_trans h3 (by decide)) h1.ordL) ?_
    rintro v _ w rfl s
    refine ⟨_, rfl, Sat.pack (m := FibN b H Wt Fl (r1, r2, r3)) (r := [slA 41 51 Entry.enc v (ordL H)]) (s.perm ?_) fibA_mkN⟩
    exact (List.Perm.cons _ (List.perm_append_comm (l₁ := [slA 41 51 Entry.enc v (ordL H)]) (l₂ := [blk b (FibFib.enc ⟨some r1, some r2, some r3, none⟩) 81, mapE r2 Wt, mapI r3 Fl]))).trans (List.Perm.swap _ _ _)
  | some o =>
    refine Spec.open fibA_some fun ⟨r1, r2, r3, bw⟩ => ?_
    refine Spec.part [mapE r1 H] [blk b (FibFib.enc ⟨some r1, some r2, some r3, some ⟨bw, 0, none⟩⟩) 81, mapE r2 Wt, mapI r3 Fl, blk bw (Op.enc o) 43] (List.Perm.swap _ _ _) (fun F' hle hr => has_spec F' (r1 := r1) (r2 := r2) (r3 := r3) ⟨hr _ _ List.mem_cons_self⟩ (Nat.le_trans h3 (by decide)) h1.ordL) ?_
    rintro v _ w rfl s
    refine ⟨_, rfl, Sat.pack (m := FibY b H Wt Fl o (r1, r2, r3, bw)) (r := [slA 41 51 Entry.enc v (ordL H)]) (s.perm ?_) fibA_mkY⟩
    exact (List.Perm.cons _ (List.perm_append_comm (l₁ := [slA 41 51 Entry.enc v (ordL H)]) (l₂ := [blk b (FibFib.enc ⟨some r1, some r2, some r3, some ⟨bw, 0, none⟩⟩) 81, mapE r2 Wt, mapI r3 Fl, blk bw (Op.enc o) 43]))).trans (List.Perm.swap _ _ _)
theorem wantedA (F : Fr) {b : Nat} {s : FibS} (hs : s.Ok) : Spec Try.prog 28 #[fp b] [FibA b s] F (fun v S => S = [FibA b s, slA 41 51 Entry.enc v (ordL s.Wt)]) := by
  obtain ⟨H, Wt, Fl, way⟩ := s
  obtain ⟨h1, h2, h3, h4⟩ := hs
  cases way with
  | none =>
    refine Spec.open fibA_none fun ⟨r1, r2, r3⟩ => ?_
    refine Spec.part [mapE r2 Wt] [blk b (FibFib.enc ⟨some r1, some r2, some r3, none⟩) 81, mapE r1 H, mapI r3 Fl] ((List.Perm.cons _ (List.Perm.swap _ _ _)).trans (List.Perm.swap _ _ _)) (fun F' hle hr => wanted_spec F' (r1 := r1) (r2 := r2) (r3 := r3) ⟨hr _ _ List.mem_cons_self⟩ (Nat.le_trans h4 (by decide)) h2.ordL) ?_
    rintro v _ w rfl s
    refine ⟨_, rfl, Sat.pack (m := FibN b H Wt Fl (r1, r2, r3)) (r := [slA 41 51 Entry.enc v (ordL Wt)]) (s.perm ?_) fibA_mkN⟩
    exact (List.Perm.cons _ (List.perm_append_comm (l₁ := [slA 41 51 Entry.enc v (ordL Wt)]) (l₂ := [blk b (FibFib.enc ⟨some r1, some r2, some r3, none⟩) 81, mapE r1 H, mapI r3 Fl]))).trans ((List.Perm.swap _ _ _).trans (List.Perm.cons _ (List.Perm.swap _ _ _)))
  | some o =>
    refine Spec.open fibA_some fun ⟨r1, r2, r3, bw⟩ => ?_
    refine Spec.part [mapE r2 Wt] [blk b (FibFib.enc ⟨some r1, some r2, some r3, some ⟨bw, 0, none⟩⟩) 81, mapE r1 H, mapI r3 Fl, blk bw (Op.enc o) 43] ((List.Perm.cons _ (List.Perm.swap _ _ _)).trans (List.Perm.swap _ _ _)) (fun F' hle hr => wanted_spec F' (r1 := r1) (r2 := r2) (r3 := r3) ⟨hr _ _ List.mem_cons_self⟩ (Nat.le_trans h4 (by decide)) h2.ordL) ?_
    rintro v _ w rfl s
    refine ⟨_, rfl, Sat.pack (m := FibY b H Wt Fl o (r1, r2, r3, bw)) (r := [slA 41 51 Entry.enc v (ordL Wt)]) (s.perm ?_) fibA_mkY⟩
    exact (List.Perm.cons _ (List.perm_append_comm (l₁ := [slA 41 51 Entry.enc v (ordL Wt)]) (l₂ := [blk b (FibFib.enc ⟨some r1, some r2, some r3, some ⟨bw, 0, none⟩⟩) 81, mapE r1 H, mapI r3 Fl, blk bw (Op.enc o) 43]))).trans ((List.Perm.swap _ _ _).trans (List.Perm.cons _ (List.Perm.swap _ _ _)))
end Slb
