/- Base 21: contracts of a table's functions. -/
import Derived.Test.YtjieokfcpbillaaB20
namespace Slb
open Go Go.Proofs
section
variable {K V : Type} [DecidableEq K] {P : Program}
variable {tr : Nat → List Value} {tty : TypeId} {ek : K → Value} {enc : V → List Value} {vty : TypeId} {b : Nat} {M : List (K × V)}
omit [DecidableEq K] in
theorem gtab_perm {r : Nat} {E : List (K × (Nat × V))} {A : List HProp} : ((blk b (tr r) tty :: mapT ek pv r (ptrs E) :: rows enc vty E) ++ A).Perm ((mapT ek pv r (ptrs E) :: A) ++ (blk b (tr r) tty :: rows enc vty E)) := by
  refine (List.Perm.swap _ _ _).trans (List.Perm.cons _ ?_)
  refine (List.Perm.cons _ List.perm_append_comm).trans ?_
  exact List.perm_middle.symm
omit [DecidableEq K] in
/-- Table and rows stand in the frame while the function runs. -/
theorem gtab_spec {f : FuncId} {args : Array Value} {A : List HProp} {F : Fr} {Q : Value → List (K × V) → List HProp → Prop}
    (h : ∀ F' r E, F'.h b = some (.cells (tr r).toArray tty (0, 0)) → (∀ e ∈ E, F'.h e.2.1 = some (.cells (enc e.2.2).toArray vty (0, 0))) → vals E = M → (M.map (·.1)).Nodup → PH.le F.h F'.h →
      Spec P f args (mapT ek pv r (ptrs E) :: A) F' fun v S => ∃ E' B rr, Q v (vals E') B ∧ (S ++ rows enc vty E).Perm (mapT ek pv r (ptrs E') :: (rows enc vty E' ++ (B ++ rr)))) :
    Spec P f args (GTab tr tty ek enc vty b M :: A) F fun v S => ∃ M' B, Q v M' B ∧ S = GTab tr tty ek enc vty b M' :: B := fun w s => by
  obtain ⟨p, ⟨r, E, hv, hst⟩, back⟩ := s.unpack
  have s1 := back _ hst
  have hnd : (M.map (·.1)).Nodup := by
    have := s1.mapNodup (M := ptrs E) (r := r) (ek := ek) (ev := pv) (List.mem_append_left _ (List.mem_cons_of_mem _ List.mem_cons_self))
    rw [keys_ptrs] at this
    rw [← hv, keys_vals]; exact this
  have hl := Spec.lend (P := P) (f := f) (args := args) (F := F) (m := mapT ek pv r (ptrs E) :: A) (r := blk b (tr r) tty :: rows enc vty E) (fun F' hle hr => h F' r E (hr _ _ List.mem_cons_self) (rows_frame hr fun A hA => List.mem_cons_of_mem _ hA) hv hnd hle)
  refine (hl w (s1.perm gtab_perm)).mono ?_
  rintro e w' ⟨v, S, he, ⟨S1, ⟨E', B, rr, hQ, hp⟩, rfl⟩, s2⟩
  refine ⟨v, _, he, ⟨vals E', B, hQ, rfl⟩, ?_⟩
  have hp2 : (S1 ++ (blk b (tr r) tty :: rows enc vty E)).Perm (((blk b (tr r) tty :: mapT ek pv r (ptrs E') :: rows enc vty E') ++ B) ++ rr) := by
    refine List.perm_middle.trans (List.Perm.cons _ ?_)
    simpa [List.append_assoc] using hp
  exact (Sat.dropP hp2 s2).pack fun p hp => ⟨r, E', rfl, hp⟩
omit [DecidableEq K] in
/-- The table stays as it is; what is handed back speaks of its rows' blocks. -/
theorem gtab_see {f : FuncId} {args : Array Value} {F : Fr} {Q : Value → List (K × (Nat × V)) → List HProp → Prop}
    (h : ∀ F' r E, F'.h b = some (.cells (tr r).toArray tty (0, 0)) → (∀ e ∈ E, F'.h e.2.1 = some (.cells (enc e.2.2).toArray vty (0, 0))) → vals E = M → PH.le F.h F'.h →
      Spec P f args [mapT ek pv r (ptrs E)] F' fun v S => ∃ B, Q v E B ∧ S = mapT ek pv r (ptrs E) :: B) :
    Spec P f args [GTab tr tty ek enc vty b M] F fun v S => ∃ r E B, vals E = M ∧ (E.map (·.1)).Nodup ∧ Q v E B ∧ S = blk b (tr r) tty :: mapT ek pv r (ptrs E) :: rowsA enc vty E :: B := fun w s => by
  obtain ⟨p, ⟨r, E, hv, hst⟩, back⟩ := s.unpack
  have s1 := back _ hst
  have hnd : (E.map (·.1)).Nodup := by
    have := s1.mapNodup (M := ptrs E) (r := r) (ek := ek) (ev := pv) (List.mem_append_left _ (List.mem_cons_of_mem _ List.mem_cons_self))
    rwa [keys_ptrs] at this
  have hl := Spec.lend (P := P) (f := f) (args := args) (F := F) (m := [mapT ek pv r (ptrs E)]) (r := blk b (tr r) tty :: rows enc vty E) (fun F' hle hr => h F' r E (hr _ _ List.mem_cons_self) (rows_frame hr fun A hA => List.mem_cons_of_mem _ hA) hv hle)
  refine (hl w (s1.perm gtab_perm)).mono ?_
  rintro e w' ⟨v, S, he, ⟨S1, ⟨B, hQ, rfl⟩, rfl⟩, s2⟩
  refine ⟨v, _, he, ⟨r, E, B, hv, hnd, hQ, rfl⟩, ?_⟩
  have hp2 : ((mapT ek pv r (ptrs E) :: B) ++ (blk b (tr r) tty :: rows enc vty E)).Perm (rows enc vty E ++ (blk b (tr r) tty :: mapT ek pv r (ptrs E) :: B)) := by
    refine List.perm_append_comm.trans ?_
    refine (List.perm_middle (l₁ := rows enc vty E) (a := blk b (tr r) tty) (l₂ := mapT ek pv r (ptrs E) :: B)).symm.trans (List.Perm.refl _)
  have s3 := (s2.perm hp2).unflat
  exact s3.perm (by
    refine (List.Perm.swap _ _ _).trans (List.Perm.cons _ ?_)
    exact List.Perm.swap _ _ _)
/-- One row alone is the function's own. -/
theorem gtab_at {f : FuncId} {args : Array Value} {F : Fr} {k : K} {s : V} {Q : Value → V → Prop} (h0 : alook M k = some s)
    (h : ∀ F' r E c, F'.h b = some (.cells (tr r).toArray tty (0, 0)) → vals E = M → alook (ptrs E) k = some c → PH.le F.h F'.h →
      Spec P f args [mapT ek pv r (ptrs E), blk c (enc s) vty] F' fun v S => ∃ s', Q v s' ∧ S = [mapT ek pv r (ptrs E), blk c (enc s') vty]) :
    Spec P f args [GTab tr tty ek enc vty b M] F fun v S => ∃ s', Q v s' ∧ S = [GTab tr tty ek enc vty b (aset M k s')] := fun w sat => by
  obtain ⟨p, g, back⟩ := sat.unpack
  obtain ⟨⟨r, E, c⟩, ho⟩ := GTab.openAt h0 g
  have s1 := (back _ ho).fact
  obtain ⟨hx, s1⟩ := s1
  have hc : alook (ptrs E) k = some c := by rw [alook_ptrs, hx.2]; rfl
  have hl := Spec.lend (P := P) (f := f) (args := args) (F := F) (m := [mapT ek pv r (ptrs E), blk c (enc s) vty]) (r := [blk b (tr r) tty, rowsA enc vty (adel E k)]) (fun F' hle hr => h F' r E c (hr _ _ List.mem_cons_self) hx.1 hc hle)
  have hp1 : ([blk b (tr r) tty, mapT ek pv r (ptrs E), blk c (enc s) vty, rowsA enc vty (adel E k)] : List HProp).Perm ([mapT ek pv r (ptrs E), blk c (enc s) vty] ++ [blk b (tr r) tty, rowsA enc vty (adel E k)]) := by
    refine (List.Perm.swap _ _ _).trans (List.Perm.cons _ (List.Perm.swap _ _ _))
  refine (hl w (s1.perm hp1)).mono ?_
  rintro e w' ⟨v, S, he, ⟨S1, ⟨s', hQ, rfl⟩, rfl⟩, s2⟩
  refine ⟨v, _, he, ⟨s', hQ, rfl⟩, ?_⟩
  have hp2 : ([mapT ek pv r (ptrs E), blk c (enc s') vty] ++ [blk b (tr r) tty, rowsA enc vty (adel E k)] : List HProp).Perm ([blk b (tr r) tty, mapT ek pv r (ptrs E), blk c (enc s') vty, rowsA enc vty (adel E k)] ++ []) := by
    refine List.Perm.trans ?_ ((List.Perm.swap _ _ _).trans (List.Perm.cons _ (List.Perm.refl _)))
    exact List.Perm.cons _ (List.Perm.swap _ _ _)
  exact (s2.perm hp2).pack fun p hp => GTab.closeAt hx hp
theorem rowsA_open {E : List (K × (Nat × V))} {k : K} {c : Nat} {s : V} (h : alook E k = some (c, s)) {p : PH} (hr : rowsA enc vty E p) : ∃ _x : Unit, stars [blk c (enc s) vty, rowsA enc vty (adel E k)] p :=
  ⟨(), star_mono (fun _ x => x) (fun _ x => star_emp x) (rowsA_out h hr)⟩
theorem rowsA_close {E : List (K × (Nat × V))} {k : K} {c : Nat} {s s' : V} (h : alook E k = some (c, s)) {p : PH} (hr : stars [blk c (enc s') vty, rowsA enc vty (adel E k)] p) : rowsA enc vty (aset E k (c, s')) p :=
  rowsA_in h (star_mono (fun _ x => x) (fun _ x => of_star_emp x) hr)
omit [DecidableEq K] in
theorem slA_map {α β : Type} {e : TypeId} {z : Nat} {en : β → List Value} {v : Value} (f : α → β) (xs : List α) : slA e z en v (xs.map f) = slA e z (fun x => en (f x)) v xs := by
  funext h
  simp only [slA, List.map_eq_nil_iff, List.length_map, List.flatMap_map]
end
section
variable {P : Program} {N : Nat} {G : Env} {S : List HProp} {F : Fr} {o : Oper} {t t' : TypeId} {x y : Operand}
theorem run_eql_fn {w : World} (d : Nat) {f : Fn} {a c : Array Value} {ps rs : Array TypeId} {vr : Bool} (ht : P.underlying t = some (.func ps rs vr)) : (Op.equalIn (d + 1) t (.func f a c) .nilFunc).run P w = .ok false w := by
  simp [Op.equalIn, run_underlying ht]
theorem run_eql_nilfn {w : World} (d : Nat) {ps rs : Array TypeId} {vr : Bool} (ht : P.underlying t = some (.func ps rs vr)) : (Op.equalIn (d + 1) t .nilFunc .nilFunc).run P w = .ok true w := by
  simp [Op.equalIn, run_underlying ht]
theorem QP.fn_eq_nil {f : Fn} {a c : Array Value} {ps rs : Array TypeId} {vr : Bool} (ho : o.op = .binOp .eql t x y t') (hx : opv G x = some (.func f a c)) (hy : opv G y = some .nilFunc) (ht : P.underlying t = some (.func ps rs vr)) : QP P N G S F o (.bool false) := fun ac w s w' => by
  unfold execOp; simp [ho, s.eval hx, s.eval hy, eqGuard_at_func, binOp, show (Op.equal t (.func f a c) .nilFunc).run P w' = .ok false w' from run_eql_fn 9999 ht]
theorem QP.nil_eq_nil {ps rs : Array TypeId} {vr : Bool} (ho : o.op = .binOp .eql t x y t') (hx : opv G x = some .nilFunc) (hy : opv G y = some .nilFunc) (ht : P.underlying t = some (.func ps rs vr)) : QP P N G S F o (.bool true) := fun ac w s w' => by
  unfold execOp; simp [ho, s.eval hx, s.eval hy, eqGuard_at_nilFunc, binOp, show (Op.equal t .nilFunc .nilFunc).run P w' = .ok true w' from run_eql_nilfn 9999 ht]
theorem QP.makeFunc {f : Fn} {cap : Array Operand} {vs : List Value} (ho : o.op = .makeFunc f #[] cap) (hv : opvs G cap.toList = some vs) : QP P N G S F o (.func f #[] vs.toArray) := fun ac w s w' => by
  have hargs : cap.map ac.eval = vs.toArray := by
    have := s.evals hv
    rw [← this]
    apply Array.ext'
    simp
  unfold execOp; simp [ho, Instr.makeFunc, hargs]
theorem QP.min2 {ts : Array TypeId} {k k' : IntKind} {m n : Int} (ho : o.op = .call ⟨.builtin .min, #[x, y], ts⟩) (hx : opv G x = some (.int k m)) (hy : opv G y = some (.int k' n)) : QP P N G S F o (.int k (if n < m then n else m)) := fun ac w s w' => by
  unfold execOp; simp [ho, s.eval hx, s.eval hy, resolve, invoke, builtin, run_min_int2]
theorem QP.max2 {ts : Array TypeId} {k k' : IntKind} {m n : Int} (ho : o.op = .call ⟨.builtin .max, #[x, y], ts⟩) (hx : opv G x = some (.int k m)) (hy : opv G y = some (.int k' n)) : QP P N G S F o (.int k (if n > m then n else m)) := fun ac w s w' => by
  unfold execOp; simp [ho, s.eval hx, s.eval hy, resolve, invoke, builtin, run_max_int2]
end
end Slb
