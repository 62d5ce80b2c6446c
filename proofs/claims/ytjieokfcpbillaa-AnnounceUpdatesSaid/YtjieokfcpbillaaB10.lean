/- Base 10: results in cells; looking up, told apart; contracts lent and changed; tables of pointers to blocks. -/
import Derived.Test.YtjieokfcpbillaaB9
namespace Slb
open Go

section
variable {P : Program} {N : Nat} {G : Env} {S : List HProp} {F : Fr}
theorem run_getD {a : Act} {w : World} (s : St N G S F a w) {t : Nat} {v : Value} (h : lk G t = some v) : a.tmps.getD t undef = v := by
  have := s.slots t v h
  simp [this]
theorem res_cell {fn : Func} {t b k : Nat} {ty ety : TypeId} {l : List Value} (h : fn.results = #[.cell t ty]) (hv : lk G t = some (.pointer (some ⟨b, 0, none⟩))) (ht : Agg P ty k) [hb : HasBlk b S l ety] (hs : SubL l 0 k l) :
    J N G S F fun a w => (results fn a.tmps).run P w = .ok (.agg l.toArray) w := fun a w s => by
  have h1 := s.slots t _ hv
  have := run_loadAgg ht (s.sat.mem hb.mem) hs
  simp [results, h, h1, asAddr, Sem.run, this, pure]
theorem res_cell1 {fn : Func} {t b : Nat} {ty ety : TypeId} {v : Value} (h : fn.results = #[.cell t ty]) (hv : lk G t = some (.pointer (some ⟨b, 0, none⟩))) (ht : Sca P ty) [hb : HasBlk b S [v] ety] :
    J N G S F fun a w => (results fn a.tmps).run P w = .ok v w := fun a w s => by
  have h1 := s.slots t _ hv
  have := run_loadSca ht (s.sat.mem hb.mem) (SubL.one (v := v))
  simp [results, h, h1, asAddr, Sem.run, this, pure]
theorem res_cell2 {fn : Func} {t u b k : Nat} {ty ety : TypeId} {l : List Value} {x : Value} (h : fn.results = #[.cell t ty, .tmp u]) (hv : lk G t = some (.pointer (some ⟨b, 0, none⟩))) (ht : Agg P ty k) [hb : HasBlk b S l ety] (hs : SubL l 0 k l) (hx : lk G u = some x) :
    J N G S F fun a w => (results fn a.tmps).run P w = .ok (.tuple #[.agg l.toArray, x]) w := fun a w s => by
  have h1 := s.slots t _ hv
  have h2 := s.slots u _ hx
  have := run_loadAgg ht (s.sat.mem hb.mem) hs
  simp [results, h, h1, h2, asAddr, Sem.run, this, pure]
theorem QR.lookupNone {o : Oper} {t kt et : TypeId} {x y : Operand} {r : Nat} {K V : Type} [DecidableEq K] {ek : K → Value} {ev : V → Value} {M : List (K × V)} (hk : KeyTy P kt K ek) (ho : o.op = .lookup t x y false) (hx : opv G x = some (.map (some r))) [hm : HasMap r S K V ek ev M] {k : K} (hy : opv G y = some (ek k)) (hu : P.underlying t = some (.map kt et)) {zv : Value} (hz : Zero P et zv)
    (hl : alook M k = none) : QR P N G S F o zv := by
  have := QR.lookup (P := P) (N := N) (F := F) hk ho hx (hm := hm) hy hu hz
  rwa [hl] at this
theorem QR.lookupSome {o : Oper} {t kt et : TypeId} {x y : Operand} {r : Nat} {K V : Type} [DecidableEq K] {ek : K → Value} {ev : V → Value} {M : List (K × V)} (hk : KeyTy P kt K ek) (ho : o.op = .lookup t x y false) (hx : opv G x = some (.map (some r))) [hm : HasMap r S K V ek ev M] {k : K} (hy : opv G y = some (ek k)) (hu : P.underlying t = some (.map kt et)) {zv : Value} (hz : Zero P et zv)
    {v : V} (hl : alook M k = some v) : QR P N G S F o (ev v) := by
  have := QR.lookup (P := P) (N := N) (F := F) hk ho hx (hm := hm) hy hu hz
  rwa [hl] at this
end

section
variable {P : Program} {f : FuncId} {args : Array Value} {S : List HProp} {F : Fr} {R : Value → List HProp → Prop}
theorem Spec.lend {m r : List HProp} (h : ∀ F' : Fr, PH.le F.h F'.h → (∀ b o, pts b o ∈ r → F'.h b = some o) → Spec P f args m F' R) : Spec P f args (m ++ r) F fun v S => ∃ S1, R v S1 ∧ S = S1 ++ r := fun w s => by
  obtain ⟨F', s1, hle, hr, back⟩ := s.lend
  exact (h F' hle hr w s1).mono fun e w' ⟨v, S', he, hR, s'⟩ => ⟨v, S' ++ r, he, ⟨S', hR, rfl⟩, back _ _ s'⟩
theorem Spec.pre {α : Type} {T : α → List HProp} (h : ∀ w, Sat S F w → ∃ x, Sat (T x) F w) (j : ∀ x, Spec P f args (T x) F R) : Spec P f args S F R := fun w s =>
  let ⟨x, hx⟩ := h w s; j x w hx
theorem Spec.fact {p : Prop} (j : p → Spec P f args S F R) : Spec P f args (Slb.fact p :: S) F R := fun w s => let ⟨hp, s'⟩ := s.fact; j hp w s'
theorem Spec.perm {S' : List HProp} (p : S.Perm S') (j : Spec P f args S' F R) : Spec P f args S F R := fun w s => j w (s.perm p)
theorem Spec.post {R' : Value → List HProp → Prop} (j : Spec P f args S F R) (h : ∀ v S1 w, R v S1 → Sat S1 F w → ∃ S2, R' v S2 ∧ Sat S2 F w) : Spec P f args S F R' := fun w s =>
  (j w s).mono fun _ w' ⟨v, S1, he, r, s1⟩ => let ⟨S2, r2, s2⟩ := h v S1 w' r s1; ⟨v, S2, he, r2, s2⟩
theorem Sat.dropP {m r : List HProp} {w : World} (p : S.Perm (m ++ r)) (s : Sat S F w) : Sat m F w := (s.perm p).dropR
theorem Sat.single {A : HProp} {w : World} (h : ∀ k, stars S k → A k) (s : Sat S F w) : Sat [A] F w :=
  Sat.mono (S := S) (fun k hk => ⟨k, PH.le.refl k, stars_one.2 (h k hk)⟩) s
theorem Sat.unpack {A : HProp} {w : World} {r : List HProp} (s : Sat (A :: r) F w) : ∃ p, A p ∧ ∀ m : List HProp, stars m p → Sat (m ++ r) F w := by
  obtain ⟨a, b, c, d, k, ⟨h1, h2, e1, e2, e3, e4⟩, f, g⟩ := s
  exact ⟨h1, e3, fun m hm => ⟨a, b, c, d, k, stars_append.2 ⟨h1, h2, e1, e2, hm, e4⟩, f, g⟩⟩
theorem Sat.pack {A : HProp} {w : World} {m r : List HProp} (s : Sat (m ++ r) F w) (h : ∀ p, stars m p → A p) : Sat (A :: r) F w := by
  obtain ⟨a, b, c, d, k, e, f, g⟩ := s
  obtain ⟨h1, h2, e1, e2, e3, e4⟩ := stars_append.1 e
  exact ⟨a, b, c, d, k, ⟨h1, h2, e1, e2, h _ e3, e4⟩, f, g⟩
end

/-! ### Tables: a map of pointers, each to a block of its own -/
@[reducible] def pv (b : Nat) : Value := .pointer (some ⟨b, 0, none⟩)
section tables
variable {K α β : Type} [DecidableEq K]
theorem alook_map (f : α → β) (E : List (K × α)) (k : K) : alook (E.map fun e => (e.1, f e.2)) k = (alook E k).map f := by
  induction E with
  | nil => rfl
  | cons e E ih =>
    obtain ⟨a, v⟩ := e
    simp only [List.map_cons, alook]
    by_cases h : a = k
    · simp [h]
    · simp [h, ih]
theorem aset_map (f : α → β) (E : List (K × α)) (k : K) (v : α) : (aset E k v).map (fun e => (e.1, f e.2)) = aset (E.map fun e => (e.1, f e.2)) k (f v) := by
  induction E with
  | nil => rfl
  | cons e E ih =>
    obtain ⟨a, u⟩ := e
    simp only [List.map_cons, aset]
    by_cases h : a = k
    · simp [h]
    · simp [h, ih]
theorem adel_map (f : α → β) (E : List (K × α)) (k : K) : (adel E k).map (fun e => (e.1, f e.2)) = adel (E.map fun e => (e.1, f e.2)) k := by
  induction E with
  | nil => rfl
  | cons e E ih =>
    obtain ⟨a, u⟩ := e
    simp only [List.map_cons, adel]
    by_cases h : a = k
    · simp [h]
    · simp [h, ih]
theorem alook_split {E : List (K × α)} {k : K} {v : α} (h : alook E k = some v) : ∃ A B, E = A ++ (k, v) :: B ∧ alook A k = none := by
  induction E with
  | nil => cases h
  | cons e E ih =>
    obtain ⟨a, u⟩ := e
    unfold alook at h
    by_cases hk : a = k
    · rw [if_pos hk] at h; cases h; subst hk; exact ⟨[], E, rfl, rfl⟩
    · rw [if_neg hk] at h
      obtain ⟨A, B, rfl, hA⟩ := ih h
      exact ⟨(a, u) :: A, B, rfl, by simp [alook, hk, hA]⟩
theorem aset_split {A B : List (K × α)} {k : K} {v u : α} (h : alook A k = none) : aset (A ++ (k, v) :: B) k u = A ++ (k, u) :: B := by
  induction A with
  | nil => simp [aset]
  | cons e A ih =>
    obtain ⟨a, x⟩ := e
    unfold alook at h
    by_cases hk : a = k
    · rw [if_pos hk] at h; cases h
    · rw [if_neg hk] at h; simp [aset, hk, ih h]
theorem adel_split {A B : List (K × α)} {k : K} {v : α} (h : alook A k = none) : adel (A ++ (k, v) :: B) k = A ++ B := by
  induction A with
  | nil => simp [adel]
  | cons e A ih =>
    obtain ⟨a, x⟩ := e
    unfold alook at h
    by_cases hk : a = k
    · rw [if_pos hk] at h; cases h
    · rw [if_neg hk] at h; simp [adel, hk, ih h]
theorem alook_mem_of_nodup {E : List (K × α)} (hn : (E.map (·.1)).Nodup) {k : K} {v : α} (h : (k, v) ∈ E) : alook E k = some v := by
  obtain ⟨j, hj⟩ := List.getElem?_of_mem h
  exact (nodup_at hn hj).1
/-- The blocks of a table. -/
def rows (enc : α → List Value) (ty : TypeId) (E : List (K × (Nat × α))) : List HProp := E.map fun e => blk e.2.1 (enc e.2.2) ty
def ptrs (E : List (K × (Nat × α))) : List (K × Nat) := E.map fun e => (e.1, e.2.1)
def vals (E : List (K × (Nat × α))) : List (K × α) := E.map fun e => (e.1, e.2.2)
omit [DecidableEq K] in
theorem rows_append (enc : α → List Value) (ty : TypeId) (A B : List (K × (Nat × α))) : rows enc ty (A ++ B) = rows enc ty A ++ rows enc ty B := by simp [rows]
theorem rows_aset (enc : α → List Value) (ty : TypeId) (E : List (K × (Nat × α))) (k : K) (b : Nat) (x : α) : ∃ r, (blk b (enc x) ty :: rows enc ty E).Perm (rows enc ty (aset E k (b, x)) ++ r) := by
  induction E with
  | nil => exact ⟨[], by simp [rows, aset]⟩
  | cons e E ih =>
    obtain ⟨a, c, u⟩ := e
    by_cases h : a = k
    · refine ⟨[blk c (enc u) ty], ?_⟩
      simp only [rows, aset, h, if_true, List.map_cons, List.cons_append]
      refine List.Perm.cons _ ?_
      exact (List.perm_append_singleton _ _).symm
    · obtain ⟨r, hr⟩ := ih
      refine ⟨r, ?_⟩
      simp only [rows, aset, h, if_false, List.map_cons, List.cons_append] at hr ⊢
      exact (List.Perm.swap _ _ _).trans (List.Perm.cons _ hr)
theorem rows_adel (enc : α → List Value) (ty : TypeId) (E : List (K × (Nat × α))) (k : K) : ∃ r, (rows enc ty E).Perm (rows enc ty (adel E k) ++ r) := by
  induction E with
  | nil => exact ⟨[], by simp [rows, adel]⟩
  | cons e E ih =>
    obtain ⟨a, c, u⟩ := e
    by_cases h : a = k
    · refine ⟨[blk c (enc u) ty], ?_⟩
      simp only [rows, adel, h, if_true, List.map_cons]
      exact (List.perm_append_singleton _ _).symm
    · obtain ⟨r, hr⟩ := ih
      refine ⟨r, ?_⟩
      simp only [rows, adel, h, if_false, List.map_cons, List.cons_append] at hr ⊢
      exact List.Perm.cons _ hr
omit [DecidableEq K] in
theorem rows_frame {enc : α → List Value} {ty : TypeId} {E : List (K × (Nat × α))} {h : PH} {r : List HProp} (hr : ∀ b o, pts b o ∈ r → h b = some o) (hs : ∀ A ∈ rows enc ty E, A ∈ r) : ∀ e ∈ E, h e.2.1 = some (.cells (enc e.2.2).toArray ty (0, 0)) := fun e he =>
  hr _ _ (hs _ (List.mem_map.2 ⟨e, he, rfl⟩))
theorem alook_ptrs (E : List (K × (Nat × α))) (k : K) : alook (ptrs E) k = (alook E k).map (·.1) := alook_map _ _ _
theorem alook_vals (E : List (K × (Nat × α))) (k : K) : alook (vals E) k = (alook E k).map (·.2) := alook_map _ _ _
theorem ptrs_aset (E : List (K × (Nat × α))) (k : K) (x : Nat × α) : ptrs (aset E k x) = aset (ptrs E) k x.1 := aset_map _ _ _ _
theorem vals_aset (E : List (K × (Nat × α))) (k : K) (x : Nat × α) : vals (aset E k x) = aset (vals E) k x.2 := aset_map _ _ _ _
theorem ptrs_adel (E : List (K × (Nat × α))) (k : K) : ptrs (adel E k) = adel (ptrs E) k := adel_map _ _ _
theorem vals_adel (E : List (K × (Nat × α))) (k : K) : vals (adel E k) = adel (vals E) k := adel_map _ _ _
omit [DecidableEq K] in
theorem keys_ptrs (E : List (K × (Nat × α))) : (ptrs E).map (·.1) = E.map (·.1) := by simp [ptrs]
omit [DecidableEq K] in
theorem keys_vals (E : List (K × (Nat × α))) : (vals E).map (·.1) = E.map (·.1) := by simp [vals]
omit [DecidableEq K] in
theorem Sat.mapNodup {V : Type} {ek : K → Value} {ev : V → Value} {r : Nat} {M : List (K × V)} {S : List HProp} {F : Fr} {w : World} (s : Sat S F w) (h : mapT ek ev r M ∈ S) : (M.map (·.1)).Nodup := by
  obtain ⟨_, _, _, hm⟩ := s.map h
  exact hm.nodup
end tables
end Slb
