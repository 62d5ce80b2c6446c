/- Base 36: appending a slice that came in (it may be empty). -/
import Derived.Test.YtanlgpdpjgpmfaaB31
namespace Slb
open Go Go.Proofs
section append
variable {P : Program} {N : Nat} {G : Env} {S S1 : List HProp} {F : Fr} {o : Oper} {t t1 e : TypeId} {x y : Operand} {z : Nat} {α : Type} {enc : α → List Value}
theorem EF.appendG (hE : ElemTy P e z) (hl : ∀ x, (enc x).length = z) (hc : ∀ x, ∀ v ∈ enc x, Value.cellB v = true) {ts : Array TypeId} (ho : o.op = .call ⟨.builtin .append, #[x, y], ts⟩) (ht : ts[0]? = some t) (ht1 : ts[1]? = some t1)
    (hu : P.underlying t = some (.slice e)) (hu1 : P.underlying t1 = some (.slice e)) {v u : Value} {xs ys : List α} (hx : opv G x = some v) (hy : opv G y = some u) (pk : Pick S (slA e z enc v xs) S1)
    (hlo : ∀ w, Sat S1 F w → (Builtin.firstCells z ys.length u).run P w = .ok (ys.flatMap enc).toArray w) (hle : ∀ w, (Builtin.lenOf u).run P w = .ok ys.length w) (hb : xs.length + ys.length ≤ 4294967296) : EF P N G S F o fun v' S' => S' = slA e z enc v' (xs ++ ys) :: S1 := fun a w st => by
  obtain ⟨i, zv, hi, hz, hby, hzero, hzv⟩ := hE.info
  have hsz : ∀ w, (Go.sizeOf e).run P w = .ok z w := fun w => by rw [run_sizeOf w hi]; unfold Program.cellsOf; rw [hi]; simp [hz]
  have hti : ∀ w, (typeInfo e).run P w = .ok i w := fun w => by unfold typeInfo; simp [program, Sem.run, hi, bind, Sem.bind, pure]
  have hzr : ∀ w, (zeroValue e).run P w = .ok zv w := fun w => by unfold zeroValue; simp only [Sem.run_bind, hti, Result.andThen_ok, hzero, Sem.run_pure]
  have s0 := st.sat.perm pk.perm
  have sS1 := s0.drop
  have hload := hlo w sS1
  have hlen := hle w
  have hmap : #[x, y].map a.eval = #[v, u] := by simp [st.eval hx, st.eval hy]
  have hexec : ∀ {v' w'}, (Builtin.append_ ts o.type #[v, u]).run P w = .ok v' w' → (execOp a.eval o).run P w = .ok (.value v') w' := fun {v' w'} h => by
    unfold execOp
    simp only [ho, resolve, hmap]
    simp only [Sem.run_bind, Sem.run_pure, Result.andThen_ok, invoke, builtin, h]
  obtain ⟨c1, c2, c3, c4, k, ⟨h1, h2, dd, e1, hA, e4⟩, f, g⟩ := s0
  have mkNew : ∀ (old : List Value) (n : Nat), old = xs.flatMap enc → xs.length + ys.length ≤ n →
      Sat (slA e z enc (.slice (some ⟨w.heap.size, 0, none⟩) (xs.length + ys.length) n) (xs ++ ys) :: S1) F { w with heap := w.heap.push (.cells (old.toArray ++ (ys.flatMap enc).toArray ++ Builtin.zeroCells zv.cells (n - (xs.length + ys.length))) e) } := by
    intro old n hold hn
    subst hold
    have s3 := sS1.new (.cells ((xs.flatMap enc).toArray ++ (ys.flatMap enc).toArray ++ Builtin.zeroCells zv.cells (n - (xs.length + ys.length))) e)
    refine s3.head fun k hk => .inr ⟨w.heap.size, 0, n, [], (Builtin.zeroCells zv.cells (n - (xs.length + ys.length))).toList, [], by simp, ?_, rfl, by simpa using hn, ?_⟩
    · rw [show k = _ from hk]
      congr 2
      apply Array.ext'
      simp
    · simp only [Array.length_toList, zeroCells_size, hzv, List.length_append]
  have grow : ∀ (v0 : Value) (cap : Nat), (Builtin.firstCells z xs.length v0).run P w = .ok (xs.flatMap enc).toArray w → v0 = v → (∃ ba, v0 = .slice ba xs.length cap) → cap < xs.length + ys.length →
      ∃ v' w', (Builtin.append_ ts o.type #[v, u]).run P w = .ok v' w' ∧ Sat (slA e z enc v' (xs ++ ys) :: S1) F w' := by
    rintro v0 cap hf rfl ⟨ba, rfl⟩ hcap
    have hq : ∃ n d, w.drawn ≤ d ∧ xs.length + ys.length ≤ n ∧ (choose (.appendCap (xs.length + ys.length) cap e)).run P w = .ok n { w with drawn := d } := by
      unfold choose
      simp only [Sem.run, Question.forced]
      exact ⟨_, _, Nat.le_succ _, Nat.le_add_right _ _, rfl⟩
    obtain ⟨n, d, hdd, hn, hch⟩ := hq
    have hask : ∀ w : World, (askRoom (n * i.bytes)).run P w = .ok () w := fun w => by
      unfold askRoom
      split
      · simp [mark, Sem.run]
      · simp
    have hcapb : ¬ (Builtin.nextslicecap (xs.length + ys.length) cap * i.bytes > 2 ^ 48) := by
      have h1 := next_cap hcap
      have h2 : Builtin.nextslicecap (xs.length + ys.length) cap * i.bytes ≤ (2 * 4294967296) * 4096 := Nat.mul_le_mul (by omega) hby
      omega
    have s1d : Sat S1 F { w with drawn := d } := sS1.drew hdd
    have hload' := hlo _ s1d
    have hf' : (Builtin.firstCells z xs.length (.slice ba xs.length cap)).run P { w with drawn := d } = .ok (xs.flatMap enc).toArray { w with drawn := d } := by
      have key : ∀ {q : Sem (Array Value)} {r0 : Array Value}, q = Builtin.firstCells z xs.length (.slice ba xs.length cap) → q.run P w = .ok r0 w → q.run P { w with drawn := d } = .ok r0 { w with drawn := d } := by
        intro q r0 hq hrun
        subst hq
        cases ba with
        | none => simp only [Builtin.firstCells, Sem.run_pure] at hrun ⊢; cases hrun; rfl
        | some ad =>
          simp only [Builtin.firstCells, loadCells] at hrun ⊢
          have gen : ∀ (m i : Nat) (acc r0 : Array Value), (loadCellsFrom ad i m acc).run P w = .ok r0 w → (loadCellsFrom ad i m acc).run P { w with drawn := d } = .ok r0 { w with drawn := d } := by
            intro m
            induction m with
            | zero => intro i acc r0 h; simp only [loadCellsFrom, Sem.run_pure] at h ⊢; cases h; rfl
            | succ m ih =>
              intro i acc r0 h
              simp only [loadCellsFrom, Sem.run_bind] at h ⊢
              unfold load at h ⊢
              simp only [Sem.run] at h ⊢
              have hc : World.cell? { w with drawn := d } (ad.add i) = w.cell? (ad.add i) := rfl
              rw [hc]
              cases hcell : w.cell? (ad.add i) with
              | some cv => rw [hcell] at h; simp only [Result.andThen_ok] at h ⊢; exact ih _ _ _ h
              | none =>
                rw [hcell] at h
                simp only at h
                split at h
                · rename_i v1 tt hfar
                  have hfar' : World.farLoad P { w with drawn := d } (ad.add i) false = .ok (v1, tt) := hfar
                  simp only [Result.andThen_ok] at h
                  have hm : (Mode.plain == Mode.atomic) = false := rfl
                  simp only [hm] at hfar ⊢
                  have hfar2 : World.farLoad P { w with drawn := d } (ad.add i) false = World.farLoad P w (ad.add i) false := rfl
                  rw [hfar2, hfar]
                  simp only [Result.andThen_ok]
                  exact ih _ _ _ h
                · simp at h
          exact gen _ _ _ _ hrun
      exact key rfl hf
    refine ⟨_, _, ?_, (mkNew _ n rfl hn).drew hdd⟩
    unfold Builtin.append_
    simp only [ht, ht1, List.getElem?_toArray, List.getElem?_cons_zero, List.getElem?_cons_succ, Sem.run_bind, run_underlying hu, run_underlying hu1, Result.andThen_ok, hsz, Sem.run_pure, hlen, Bool.false_eq_true, if_false, Bool.not_false]
    rw [if_neg (by omega)]
    have hneg : ¬ (((xs.length + ys.length : Nat) : Int) > IntKind.i64.max) := by rw [IntKind.max_i64]; omega
    simp only [Sem.run_bind, hti, Result.andThen_ok, Bool.false_eq_true, false_or, hneg, false_and, if_false, hcapb, hch, hask, hf', hload', hzr, Sem.run_pure]
    simp [newRow, newObj, Sem.run]
    have ea : (xs.flatMap enc).toArray ++ ((ys.flatMap enc).toArray ++ Builtin.zeroCells zv.cells (n - (xs.length + ys.length))) = (xs.flatMap enc ++ ys.flatMap enc).toArray ++ Builtin.zeroCells zv.cells (n - (xs.length + ys.length)) := by
      apply Array.ext'; simp
    rw [hload']
    simp only [Result.andThen_ok]
    unfold World.alloc
    rw [ea]
  rcases hA with ⟨rfl, rfl, rfl⟩ | ⟨b, off, c, pre, spare, post, rfl, rfl, hpre, hcle, hsp⟩
  · by_cases hy0 : ys.length = 0
    · have hys : ys = [] := List.eq_nil_of_length_eq_zero hy0
      subst hys
      refine estep_value (v := .slice none 0 0) (w' := w) (hexec ?_) ⟨_, rfl, ?_⟩
      · unfold Builtin.append_
        simp only [ht, ht1, List.getElem?_toArray, List.getElem?_cons_zero, List.getElem?_cons_succ, Sem.run_bind, run_underlying hu, run_underlying hu1, Result.andThen_ok, hsz, Sem.run_pure, hlen, Bool.false_eq_true, if_false, Bool.not_false, List.length_nil, Nat.add_zero, Nat.le_refl, if_true]
        simp only [List.length_nil] at hload
        simp [hload]
      · exact ⟨c1, c2, c3, c4, k, ⟨PH.none, h2, dd, e1, .inl ⟨rfl, rfl, rfl⟩, e4⟩, f, g⟩
    · obtain ⟨v', w', hrun, hs⟩ := grow (.slice none 0 0) 0 (by simp [Builtin.firstCells]) rfl ⟨none, rfl⟩ (by simp; omega)
      exact estep_value (hexec hrun) ⟨_, rfl, hs⟩
  · have hbl : w.heap[b]? = some (.cells (pre ++ (xs.flatMap enc ++ (spare ++ post))).toArray e (0, 0)) := g b _ (by rw [e1]; exact PH.le_union_left b _ (single_self _ _))
    have hxl := flatMap_len hl xs
    have hyl := flatMap_len hl ys
    by_cases hroom : xs.length + ys.length ≤ c
    · obtain ⟨w', r1, r2, r3, r4, r5, r6⟩ := run_storeCells (P := P) (off := off + xs.length * z) (ys.flatMap enc) 0 w _ hbl (by
        simp only [List.length_append, hxl, hyl, hpre, hsp]
        have : ys.length * z ≤ (c - xs.length) * z := Nat.mul_le_mul_right z (by omega)
        omega) (flatMap_cell hc ys)
      refine estep_value (v := .slice (some ⟨b, off, none⟩) (xs.length + ys.length) c) (w' := w') (hexec ?_) ⟨_, rfl, ?_⟩
      · unfold Builtin.append_
        simp only [ht, ht1, List.getElem?_toArray, List.getElem?_cons_zero, List.getElem?_cons_succ, Sem.run_bind, run_underlying hu, run_underlying hu1, Result.andThen_ok, hsz, Sem.run_pure, hlen, Bool.false_eq_true, if_false, Bool.not_false, hroom, if_true, hload, add_lit]
        rw [r1]
        simp
      · have s1 : Sat (pts b (.cells (pre ++ (xs.flatMap enc ++ (spare ++ post))).toArray e (0, 0)) :: S1) F w := ⟨c1, c2, c3, c4, k, ⟨_, h2, dd, e1, rfl, e4⟩, f, g⟩
        refine (s1.set _ r2 r3 r4 r5 r6).head fun k hk => .inr ⟨b, off, c, pre, spare.drop (ys.length * z), post, by simp, ?_, hpre, by simp; omega, ?_⟩
        · rw [show k = _ from hk]
          congr 3
          simp only [Nat.add_zero, List.flatMap_append, List.append_assoc]
          have hle : ys.length * z ≤ spare.length := by rw [hsp]; exact Nat.mul_le_mul_right z (by omega)
          have e1 : (pre ++ (xs.flatMap enc ++ (spare ++ post))).take (off + xs.length * z) = pre ++ xs.flatMap enc := by
            rw [← List.append_assoc]
            exact List.take_left' (by simp [hpre, hxl])
          have e2 : (pre ++ (xs.flatMap enc ++ (spare ++ post))).drop (off + xs.length * z + (ys.flatMap enc).length) = spare.drop (ys.length * z) ++ post := by
            rw [← List.append_assoc, ← List.drop_drop, List.drop_left' (by simp [hpre, hxl]), hyl, List.drop_append_of_le_length hle]
          rw [e1, e2]
          simp
        · simp only [List.length_drop, hsp, List.length_append]
          rw [← Nat.sub_mul]
          congr 1
          omega
    · obtain ⟨v', w', hrun, hs⟩ := grow (.slice (some ⟨b, off, none⟩) xs.length c) c (by
        have hr' : RowsAt [pts b (.cells (pre ++ (xs.flatMap enc ++ (spare ++ post))).toArray e (0, 0))] F (.slice (some ⟨b, off, none⟩) xs.length c) xs.length z (xs.flatMap enc) :=
          ⟨hxl, .inr ⟨b, off, c, rfl, fun w s => ⟨_, e, (0, 0), s.at, ⟨pre, spare ++ post, by simp, hpre, hxl⟩⟩⟩⟩
        refine hr'.load (P := P) (w := w) ?_
        have s1 : Sat (pts b (.cells (pre ++ (xs.flatMap enc ++ (spare ++ post))).toArray e (0, 0)) :: S1) F w := ⟨c1, c2, c3, c4, k, ⟨_, h2, dd, e1, rfl, e4⟩, f, g⟩
        exact Sat.dropR (m := [_]) (r := S1) s1) rfl ⟨_, rfl⟩ (by omega)
      exact estep_value (hexec hrun) ⟨_, rfl, hs⟩
theorem argSl_load {a : Option Addr} {c : Nat} {ys : List α} (hl : ∀ x, (enc x).length = z) (h : ArgSl F a z enc ys) : ∀ w, Sat S1 F w → (Builtin.firstCells z ys.length (.slice a ys.length c)).run P w = .ok (ys.flatMap enc).toArray w := fun w s => by
  by_cases h0 : 0 < ys.length
  · obtain ⟨b, off, rfl, l, ty, fz, h1, h2⟩ := h h0
    refine RowsAt.load (S := S1) (F := F) ⟨flatMap_len hl ys, .inr ⟨b, off, c, rfl, fun w s => ⟨l, ty, fz, s.frame h1, h2⟩⟩⟩ s
  · have : ys = [] := List.eq_nil_of_length_eq_zero (by omega)
    subst this
    cases a with
    | none => simp [Builtin.firstCells]
    | some a => simp [Builtin.firstCells, loadCells, loadCellsFrom]
theorem argSl_len {a : Option Addr} {c : Nat} {ys : List α} (w : World) : (Builtin.lenOf (.slice a ys.length c)).run P w = .ok ys.length w := by simp [Builtin.lenOf]
theorem EF.appendArg (hE : ElemTy P e z) (hl : ∀ x, (enc x).length = z) (hc : ∀ x, ∀ v ∈ enc x, Value.cellB v = true) {ts : Array TypeId} (ho : o.op = .call ⟨.builtin .append, #[x, y], ts⟩) (ht : ts[0]? = some t) (ht1 : ts[1]? = some t1)
    (hu : P.underlying t = some (.slice e)) (hu1 : P.underlying t1 = some (.slice e)) {v : Value} {a : Option Addr} {c : Nat} {xs ys : List α} (hx : opv G x = some v) (hy : opv G y = some (.slice a ys.length c)) (pk : Pick S (slA e z enc v xs) S1)
    (ha : ArgSl F a z enc ys) (hb : xs.length + ys.length ≤ 4294967296) : EF P N G S F o fun v' S' => S' = slA e z enc v' (xs ++ ys) :: S1 :=
  EF.appendG hE hl hc ho ht ht1 hu hu1 hx hy pk (argSl_load hl ha) argSl_len hb
end append
end Slb
