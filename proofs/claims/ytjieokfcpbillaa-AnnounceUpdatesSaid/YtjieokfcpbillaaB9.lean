/- Base 9: slices that a walk owns; append. -/
import Derived.Test.YtjieokfcpbillaaB8
namespace Slb
open Go

/-- What append asks of an element's type. -/
structure ElemTy (P : Program) (e : TypeId) (z : Nat) : Prop where
  info : ∃ i zv, P.info? e = some i ∧ i.size = z ∧ i.bytes ≤ 4096 ∧ i.zero = some zv ∧ zv.cells.size = z
/-- A slice and its array: the rows of xs, behind what lies ahead in the array; room behind them. -/
def slA {α : Type} (e : TypeId) (z : Nat) (enc : α → List Value) (v : Value) (xs : List α) : HProp := fun h =>
  (v = .slice none 0 0 ∧ xs = [] ∧ h = PH.none) ∨
  ∃ b off c pre spare post, v = .slice (some ⟨b, off, none⟩) xs.length c ∧ h = PH.single b (.cells (pre ++ (xs.flatMap enc ++ (spare ++ post))).toArray e (0, 0)) ∧ pre.length = off ∧ xs.length ≤ c ∧ spare.length = (c - xs.length) * z
/-- What a slice reads as. -/
def RowsAt (S : List HProp) (F : Fr) (v : Value) (n z : Nat) (cells : List Value) : Prop :=
  cells.length = n * z ∧ ((v = .slice none 0 0 ∧ n = 0) ∨ ∃ b off c, v = .slice (some ⟨b, off, none⟩) n c ∧ ∀ w, Sat S F w → ∃ l ty fz, w.heap[b]? = some (.cells l.toArray ty fz) ∧ SubL l off (n * z) cells)
theorem flatMap_len {α : Type} {enc : α → List Value} {z : Nat} (hl : ∀ x, (enc x).length = z) (xs : List α) : (xs.flatMap enc).length = xs.length * z := by
  induction xs with
  | nil => simp
  | cons x xs ih => simp only [List.flatMap_cons, List.length_append, hl, ih, List.length_cons, Nat.add_one_mul]; omega
theorem flatMap_cell {α : Type} {enc : α → List Value} (hc : ∀ x, ∀ v ∈ enc x, Value.cellB v = true) (xs : List α) : ∀ v ∈ xs.flatMap enc, Value.cellB v = true := fun v hv => by
  obtain ⟨x, _, hx⟩ := List.mem_flatMap.1 hv
  exact hc x v hx
theorem rows_at {α : Type} {enc : α → List Value} {xs : List α} {i : Nat} (h : i < xs.length) : xs.flatMap enc = (xs.take i).flatMap enc ++ enc xs[i] ++ (xs.drop (i + 1)).flatMap enc := by
  have : xs = xs.take i ++ xs[i] :: xs.drop (i + 1) := by simp
  have e := congrArg (List.flatMap enc) this
  rw [List.flatMap_append, List.flatMap_cons, ← List.append_assoc] at e
  exact e
theorem take_len {α : Type} {enc : α → List Value} {z : Nat} (hl : ∀ x, (enc x).length = z) {xs : List α} {i : Nat} (h : i ≤ xs.length) : ((xs.take i).flatMap enc).length = i * z := by
  rw [flatMap_len hl, List.length_take, Nat.min_eq_left h]
/-- The row of element i. -/
theorem sub_row {α : Type} {enc : α → List Value} {z : Nat} (hl : ∀ x, (enc x).length = z) {xs : List α} {i : Nat} {x : α} (h : xs[i]? = some x) : SubL (xs.flatMap enc) (i * z) z (enc x) := by
  obtain ⟨hlt, rfl⟩ := List.getElem?_eq_some_iff.1 h
  exact ⟨(xs.take i).flatMap enc, (xs.drop (i + 1)).flatMap enc, rows_at hlt, take_len hl (Nat.le_of_lt hlt), hl _⟩
theorem set_row {α : Type} {enc : α → List Value} {z : Nat} (hl : ∀ x, (enc x).length = z) {xs : List α} {i : Nat} (x : α) (h : i < xs.length) : SetL (xs.flatMap enc) (i * z) z (enc x) ((xs.set i x).flatMap enc) := by
  refine ⟨(xs.take i).flatMap enc, enc xs[i], (xs.drop (i + 1)).flatMap enc, rows_at h, ?_, take_len hl (Nat.le_of_lt h), hl _, hl _⟩
  rw [List.set_eq_take_append_cons_drop, if_pos h, List.flatMap_append, List.flatMap_cons, List.append_assoc]
theorem next_cap {need cap : Nat} (h : cap < need) : Builtin.nextslicecap need cap ≤ 2 * need := by
  unfold Builtin.nextslicecap
  split
  · omega
  · split
    · omega
    · have grow : ∀ r c, 256 ≤ c → c < need → Builtin.growBy need r c ≤ 2 * need := by
        intro r
        induction r with
        | zero => intro c _ hc; simp only [Builtin.growBy]; omega
        | succ r ih =>
          intro c h1 h2
          unfold Builtin.growBy
          rw [if_neg (by omega)]
          by_cases h3 : c + (c + 768) / 4 < need
          · exact ih _ (by omega) h3
          · cases r with
            | zero => simp only [Builtin.growBy]; omega
            | succ r => unfold Builtin.growBy; rw [if_pos (by omega)]; omega
      exact grow 4 cap (by omega) h
theorem zeroCells_size (zero : Array Value) (n : Nat) : (Builtin.zeroCells zero n).size = n * zero.size := by unfold Builtin.zeroCells; simp

section append
variable {P : Program} {N : Nat} {G : Env} {S S1 : List HProp} {F : Fr} {o : Oper} {t t1 e : TypeId} {x y : Operand} {z : Nat} {α : Type} {enc : α → List Value}
theorem RowsAt.load {v : Value} {n : Nat} {cells : List Value} (h : RowsAt S F v n z cells) {w : World} (s : Sat S F w) : (Builtin.firstCells z n v).run P w = .ok cells.toArray w := by
  obtain ⟨hl, ⟨rfl, rfl⟩ | ⟨b, off, c, rfl, hr⟩⟩ := h
  · have : cells = [] := List.eq_nil_of_length_eq_zero (by simpa using hl)
    subst this
    simp [Builtin.firstCells]
  · obtain ⟨l, ty, fz, hh, hs⟩ := hr w s
    simp only [Builtin.firstCells, loadCells]
    have := run_loadCells (P := P) hh (off := off) [] cells 0 #[] (fun j hj => by rw [Nat.zero_add]; exact hs.get (by omega))
    rw [hl] at this
    rw [this]; simp
theorem RowsAt.len {v : Value} {n : Nat} {cells : List Value} (h : RowsAt S F v n z cells) (w : World) : (Builtin.lenOf v).run P w = .ok n w := by
  obtain ⟨_, ⟨rfl, rfl⟩ | ⟨b, off, c, rfl, _⟩⟩ := h <;> simp [Builtin.lenOf]
theorem EF.append (hE : ElemTy P e z) (hl : ∀ x, (enc x).length = z) (hc : ∀ x, ∀ v ∈ enc x, Value.cellB v = true) {ts : Array TypeId} (ho : o.op = .call ⟨.builtin .append, #[x, y], ts⟩) (ht : ts[0]? = some t) (ht1 : ts[1]? = some t1)
    (hu : P.underlying t = some (.slice e)) (hu1 : P.underlying t1 = some (.slice e)) {v u : Value} {xs ys : List α} (hx : opv G x = some v) (hy : opv G y = some u) (pk : Pick S (slA e z enc v xs) S1)
    (hr : RowsAt S1 F u ys.length z (ys.flatMap enc)) (hb : xs.length + ys.length ≤ 4294967296) : EF P N G S F o fun v' S' => S' = slA e z enc v' (xs ++ ys) :: S1 := fun a w st => by
  obtain ⟨i, zv, hi, hz, hby, hzero, hzv⟩ := hE.info
  have hsz : ∀ w, (Go.sizeOf e).run P w = .ok z w := fun w => by rw [run_sizeOf w hi]; unfold Program.cellsOf; rw [hi]; simp [hz]
  have hti : ∀ w, (typeInfo e).run P w = .ok i w := fun w => by unfold typeInfo; simp [program, Sem.run, hi, bind, Sem.bind, pure]
  have hzr : ∀ w, (zeroValue e).run P w = .ok zv w := fun w => by unfold zeroValue; simp only [Sem.run_bind, hti, Result.andThen_ok, hzero, Sem.run_pure]
  have s0 := st.sat.perm pk.perm
  have sS1 := s0.drop
  have hload := hr.load (P := P) sS1
  have hlen := hr.len (P := P) w
  have hmap : #[x, y].map a.eval = #[v, u] := by simp [st.eval hx, st.eval hy]
  have hexec : ∀ {v' w'}, (Builtin.append_ ts o.type #[v, u]).run P w = .ok v' w' → (execOp a.eval o).run P w = .ok (.value v') w' := fun {v' w'} h => by
    unfold execOp
    simp only [ho, resolve, hmap]
    simp only [Sem.run_bind, Sem.run_pure, Result.andThen_ok, invoke, builtin, h]
  obtain ⟨c1, c2, c3, c4, k, ⟨h1, h2, dd, e1, hA, e4⟩, f, g⟩ := s0
  have mkNew : ∀ (old : List Value) (n : Nat), old = xs.flatMap enc → xs.length + ys.length ≤ n →
      Sat (slA e z enc (.slice (some ⟨w.heap.size, 0, none⟩) (xs.length + ys.length) n) (xs ++ ys) :: S1) F { w with heap := w.heap.push (.cells (old.toArray ++ (ys.flatMap enc).toArray ++ Builtin.zeroCells zv.cells (n - (xs.length + ys.length))) e) } := by
    intro old n hold hn
    subst hold
    have s3 := sS1.new (.cells ((xs.flatMap enc).toArray ++ (ys.flatMap enc).toArray ++ Builtin.zeroCells zv.cells (n - (xs.length + ys.length))) e)
    refine s3.head fun k hk => .inr ⟨w.heap.size, 0, n, [], (Builtin.zeroCells zv.cells (n - (xs.length + ys.length))).toList, [], by simp, ?_, rfl, by simpa using hn, ?_⟩
    · rw [show k = _ from hk]
      congr 2
      apply Array.ext'
      simp
    · simp only [Array.length_toList, zeroCells_size, hzv, List.length_append]
  have grow : ∀ (v0 : Value) (cap : Nat), (Builtin.firstCells z xs.length v0).run P w = .ok (xs.flatMap enc).toArray w → v0 = v → (∃ ba, v0 = .slice ba xs.length cap) → cap < xs.length + ys.length →
      ∃ v' w', (Builtin.append_ ts o.type #[v, u]).run P w = .ok v' w' ∧ Sat (slA e z enc v' (xs ++ ys) :: S1) F w' := by
    rintro v0 cap hf rfl ⟨ba, rfl⟩ hcap
    have hq : ∃ n d, w.drawn ≤ d ∧ xs.length + ys.length ≤ n ∧ (choose (.appendCap (xs.length + ys.length) cap e)).run P w = .ok n { w with drawn := d } := by
      unfold choose
      simp only [Sem.run, Question.forced]
      exact ⟨_, _, Nat.le_succ _, Nat.le_add_right _ _, rfl⟩
    obtain ⟨n, d, hdd, hn, hch⟩ := hq
    have hask : ∀ w : World, (askRoom (n * i.bytes)).run P w = .ok () w := fun w => by
      unfold askRoom
      split
      · simp [mark, Sem.run]
      · simp
    have hcapb : ¬ (Builtin.nextslicecap (xs.length + ys.length) cap * i.bytes > 2 ^ 48) := by
      have h1 := next_cap hcap
      have h2 : Builtin.nextslicecap (xs.length + ys.length) cap * i.bytes ≤ (2 * 4294967296) * 4096 := Nat.mul_le_mul (by omega) hby
      omega
    have s1d : Sat S1 F { w with drawn := d } := sS1.drew hdd
    have hload' := hr.load (P := P) s1d
    have hf' : (Builtin.firstCells z xs.length (.slice ba xs.length cap)).run P { w with drawn := d } = .ok (xs.flatMap enc).toArray { w with drawn := d } := by
      have key : ∀ {q : Sem (Array Value)} {r0 : Array Value}, q = Builtin.firstCells z xs.length (.slice ba xs.length cap) → q.run P w = .ok r0 w → q.run P { w with drawn := d } = .ok r0 { w with drawn := d } := by
        intro q r0 hq hrun
        subst hq
        cases ba with
        | none => simp only [Builtin.firstCells, Sem.run_pure] at hrun ⊢; cases hrun; rfl
        | some ad =>
          simp only [Builtin.firstCells, loadCells] at hrun ⊢
          have gen : ∀ (m i : Nat) (acc r0 : Array Value), (loadCellsFrom ad i m acc).run P w = .ok r0 w → (loadCellsFrom ad i m acc).run P { w with drawn := d } = .ok r0 { w with drawn := d } := by
            intro m
            induction m with
            | zero => intro i acc r0 h; simp only [loadCellsFrom, Sem.run_pure] at h ⊢; cases h; rfl
            | succ m ih =>
              intro i acc r0 h
              simp only [loadCellsFrom, Sem.run_bind] at h ⊢
              unfold load at h ⊢
              simp only [Sem.run] at h ⊢
              have hc : World.cell? { w with drawn := d } (ad.add i) = w.cell? (ad.add i) := rfl
              rw [hc]
              cases hcell : w.cell? (ad.add i) with
              | some cv => rw [hcell] at h; simp only [Result.andThen_ok] at h ⊢; exact ih _ _ _ h
              | none =>
                rw [hcell] at h
                simp only at h
                split at h
                · rename_i v1 tt hfar
                  have hfar' : World.farLoad P { w with drawn := d } (ad.add i) false = .ok (v1, tt) := hfar
                  simp only [Result.andThen_ok] at h
                  have hm : (Mode.plain == Mode.atomic) = false := rfl
                  simp only [hm] at hfar ⊢
                  have hfar2 : World.farLoad P { w with drawn := d } (ad.add i) false = World.farLoad P w (ad.add i) false := rfl
                  rw [hfar2, hfar]
                  simp only [Result.andThen_ok]
                  exact ih _ _ _ h
                · simp at h
          exact gen _ _ _ _ hrun
      exact key rfl hf
    refine ⟨_, _, ?_, (mkNew _ n rfl hn).drew hdd⟩
    unfold Builtin.append_
    simp only [ht, ht1, List.getElem?_toArray, List.getElem?_cons_zero, List.getElem?_cons_succ, Sem.run_bind, run_underlying hu, run_underlying hu1, Result.andThen_ok, hsz, Sem.run_pure, hlen, Bool.false_eq_true, if_false, Bool.not_false]
    rw [if_neg (by omega)]
    have hneg : ¬ (((xs.length + ys.length : Nat) : Int) > IntKind.i64.max) := by rw [IntKind.max_i64]; omega
    simp only [Sem.run_bind, hti, Result.andThen_ok, Bool.false_eq_true, false_or, hneg, false_and, if_false, hcapb, hch, hask, hf', hload', hzr, Sem.run_pure]
    simp [newRow, newObj, Sem.run]
    have ea : (xs.flatMap enc).toArray ++ ((ys.flatMap enc).toArray ++ Builtin.zeroCells zv.cells (n - (xs.length + ys.length))) = (xs.flatMap enc ++ ys.flatMap enc).toArray ++ Builtin.zeroCells zv.cells (n - (xs.length + ys.length)) := by
      apply Array.ext'; simp
    rw [hload']
    simp only [Result.andThen_ok]
    unfold World.alloc
    rw [ea]
  rcases hA with ⟨rfl, rfl, rfl⟩ | ⟨b, off, c, pre, spare, post, rfl, rfl, hpre, hcle, hsp⟩
  · by_cases hy0 : ys.length = 0
    · have hys : ys = [] := List.eq_nil_of_length_eq_zero hy0
      subst hys
      refine estep_value (v := .slice none 0 0) (w' := w) (hexec ?_) ⟨_, rfl, ?_⟩
      · unfold Builtin.append_
        simp only [ht, ht1, List.getElem?_toArray, List.getElem?_cons_zero, List.getElem?_cons_succ, Sem.run_bind, run_underlying hu, run_underlying hu1, Result.andThen_ok, hsz, Sem.run_pure, hlen, Bool.false_eq_true, if_false, Bool.not_false, List.length_nil, Nat.add_zero, Nat.le_refl, if_true]
        simp only [List.length_nil] at hload
        simp [hload]
      · exact ⟨c1, c2, c3, c4, k, ⟨PH.none, h2, dd, e1, .inl ⟨rfl, rfl, rfl⟩, e4⟩, f, g⟩
    · obtain ⟨v', w', hrun, hs⟩ := grow (.slice none 0 0) 0 (by simp [Builtin.firstCells]) rfl ⟨none, rfl⟩ (by simp; omega)
      exact estep_value (hexec hrun) ⟨_, rfl, hs⟩
  · have hbl : w.heap[b]? = some (.cells (pre ++ (xs.flatMap enc ++ (spare ++ post))).toArray e (0, 0)) := g b _ (by rw [e1]; exact PH.le_union_left b _ (single_self _ _))
    have hxl := flatMap_len hl xs
    have hyl := flatMap_len hl ys
    by_cases hroom : xs.length + ys.length ≤ c
    · obtain ⟨w', r1, r2, r3, r4, r5, r6⟩ := run_storeCells (P := P) (off := off + xs.length * z) (ys.flatMap enc) 0 w _ hbl (by
        simp only [List.length_append, hxl, hyl, hpre, hsp]
        have : ys.length * z ≤ (c - xs.length) * z := Nat.mul_le_mul_right z (by omega)
        omega) (flatMap_cell hc ys)
      refine estep_value (v := .slice (some ⟨b, off, none⟩) (xs.length + ys.length) c) (w' := w') (hexec ?_) ⟨_, rfl, ?_⟩
      · unfold Builtin.append_
        simp only [ht, ht1, List.getElem?_toArray, List.getElem?_cons_zero, List.getElem?_cons_succ, Sem.run_bind, run_underlying hu, run_underlying hu1, Result.andThen_ok, hsz, Sem.run_pure, hlen, Bool.false_eq_true, if_false, Bool.not_false, hroom, if_true, hload, add_lit]
        rw [r1]
        simp
      · have s1 : Sat (pts b (.cells (pre ++ (xs.flatMap enc ++ (spare ++ post))).toArray e (0, 0)) :: S1) F w := ⟨c1, c2, c3, c4, k, ⟨_, h2, dd, e1, rfl, e4⟩, f, g⟩
        refine (s1.set _ r2 r3 r4 r5 r6).head fun k hk => .inr ⟨b, off, c, pre, spare.drop (ys.length * z), post, by simp, ?_, hpre, by simp; omega, ?_⟩
        · rw [show k = _ from hk]
          congr 3
          simp only [Nat.add_zero, List.flatMap_append, List.append_assoc]
          have hle : ys.length * z ≤ spare.length := by rw [hsp]; exact Nat.mul_le_mul_right z (by omega)
          have e1 : (pre ++ (xs.flatMap enc ++ (spare ++ post))).take (off + xs.length * z) = pre ++ xs.flatMap enc := by
            rw [← List.append_assoc]
            exact List.take_left' (by simp [hpre, hxl])
          have e2 : (pre ++ (xs.flatMap enc ++ (spare ++ post))).drop (off + xs.length * z + (ys.flatMap enc).length) = spare.drop (ys.length * z) ++ post := by
            rw [← List.append_assoc, ← List.drop_drop, List.drop_left' (by simp [hpre, hxl]), hyl, List.drop_append_of_le_length hle]
          rw [e1, e2]
          simp
        · simp only [List.length_drop, hsp, List.length_append]
          rw [← Nat.sub_mul]
          congr 1
          omega
    · obtain ⟨v', w', hrun, hs⟩ := grow (.slice (some ⟨b, off, none⟩) xs.length c) c (by
        have hr' : RowsAt [pts b (.cells (pre ++ (xs.flatMap enc ++ (spare ++ post))).toArray e (0, 0))] F (.slice (some ⟨b, off, none⟩) xs.length c) xs.length z (xs.flatMap enc) :=
          ⟨hxl, .inr ⟨b, off, c, rfl, fun w s => ⟨_, e, (0, 0), s.at, ⟨pre, spare ++ post, by simp, hpre, hxl⟩⟩⟩⟩
        refine hr'.load (P := P) (w := w) ?_
        have s1 : Sat (pts b (.cells (pre ++ (xs.flatMap enc ++ (spare ++ post))).toArray e (0, 0)) :: S1) F w := ⟨c1, c2, c3, c4, k, ⟨_, h2, dd, e1, rfl, e4⟩, f, g⟩
        exact Sat.dropR (m := [_]) (r := S1) s1) rfl ⟨_, rfl⟩ (by omega)
      exact estep_value (hexec hrun) ⟨_, rfl, hs⟩
end append
end Slb
