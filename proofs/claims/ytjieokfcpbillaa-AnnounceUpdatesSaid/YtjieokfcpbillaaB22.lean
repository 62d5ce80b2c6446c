/- Base 22: a slice's tail is cleared; what a list is without its repetitions. -/
import Derived.Test.YtjieokfcpbillaaB21
namespace Slb
open Go Go.Proofs
section
variable {P : Program} {N : Nat} {G : Env} {S : List HProp} {F : Fr} {o : Oper} {t e : TypeId} {x : Operand} {z : Nat}
theorem slOff_at {b off c i z : Nat} (h : i < c) : slOff (some ⟨b, off, none⟩) c i z = some ⟨b, off + i * z, none⟩ := by
  unfold slOff
  rw [if_neg (by omega)]
  simp [add_lit]
theorem SlH.off {α : Type} {a : Option Addr} {c : Nat} {xs : List α} (h : SlH a c xs) (z : Nat) : slOff a c 0 z = a := by
  rcases h with ⟨rfl, rfl, rfl⟩ | ⟨⟨b, off, rfl⟩, _⟩
  · rfl
  · unfold slOff; split
    · rfl
    · simp [add_lit]
/-- A slice that is cut behind: what is left of it. -/
theorem slA_shrink {α : Type} {enc : α → List Value} {a : Option Addr} {n c i : Nat} {xs : List α} (hl : ∀ x, (enc x).length = z) (hi : i ≤ xs.length) {h : PH} (hs : slA e z enc (.slice a n c) xs h) : slA e z enc (.slice a i c) (xs.take i) h := by
  rcases hs with ⟨h1, rfl, rfl⟩ | ⟨b, off, c', pre, spare, post, h1, rfl, h3, h4, h5⟩
  · simp only [Value.slice.injEq] at h1
    obtain ⟨rfl, _, rfl⟩ := h1
    simp at hi; subst hi
    exact .inl ⟨rfl, rfl, rfl⟩
  · simp only [Value.slice.injEq] at h1
    obtain ⟨rfl, rfl, rfl⟩ := h1
    have hx : xs.flatMap enc = (xs.take i).flatMap enc ++ (xs.drop i).flatMap enc := by rw [← List.flatMap_append, List.take_append_drop]
    refine .inr ⟨b, off, c, pre, (xs.drop i).flatMap enc ++ spare, post, ?_, ?_, h3, by simp; omega, ?_⟩
    · simp [Nat.min_eq_left hi]
    · rw [hx]; simp
    · rw [List.length_append, flatMap_len hl, h5, List.length_drop, List.length_take, Nat.min_eq_left hi, ← Nat.add_mul]
      congr 1; omega
theorem zeroCells_cell {zero : Array Value} (h : ∀ u ∈ zero.toList, Value.cellB u = true) (n : Nat) : ∀ u ∈ (Builtin.zeroCells zero n).toList, Value.cellB u = true := fun u hu => by
  unfold Builtin.zeroCells at hu
  have hm := Array.mem_toList_iff.1 hu
  obtain ⟨i, hi, rfl⟩ := Array.mem_map.1 hm
  have hpos : 0 < zero.size := by
    rcases Nat.eq_zero_or_pos zero.size with h0 | h0
    · rw [h0] at hi; simp at hi
    · exact h0
  have hlt := Nat.mod_lt i hpos
  rw [getElem!_pos zero _ hlt]
  exact h _ (Array.mem_toList_iff.2 (Array.getElem_mem hlt))
theorem EF.clearSl {α : Type} {enc : α → List Value} {zero : Value} {ts : Array TypeId} {a : Option Addr} {n c i n' c' : Nat} {xs : List α} {S1 : List HProp} (ho : o.op = .call ⟨.builtin .clear, #[x], ts⟩) (ht : ts[0]? = some t) (hu : P.underlying t = some (.slice e))
    (h0 : Zero P e zero) (hzl : zero.cells.size = z) (hzc : ∀ u ∈ zero.cells.toList, Value.cellB u = true) (hl : ∀ x, (enc x).length = z)
    (pk : Pick S (slA e z enc (.slice a n c) xs) S1) (hx : opv G x = some (.slice (slOff a c i z) n' c')) (hn : n' = xs.length - i) (hi : i ≤ xs.length) :
    EF P N G S F o fun _ S2 => S2 = slA e z enc (.slice a i c) (xs.take i) :: S1 := fun ac w st => by
  subst hn
  obtain ⟨p, hp, back⟩ := (st.sat.perm pk.perm).unpack
  by_cases hlt : i < xs.length
  · rcases hp with ⟨h1, rfl, _⟩ | ⟨b, off, cc, pre, spare, post, h1, rfl, h3, h4, h5⟩
    · simp at hlt
    · simp only [Value.slice.injEq] at h1
      obtain ⟨rfl, rfl, rfl⟩ := h1
      have s1 : Sat (blk b (pre ++ (xs.flatMap enc ++ (spare ++ post))) e :: S1) F w := back [blk b (pre ++ (xs.flatMap enc ++ (spare ++ post))) e] (stars_one.2 rfl)
      have hb : w.heap[b]? = some (.cells (pre ++ (xs.flatMap enc ++ (spare ++ post))).toArray e (0, 0)) := s1.at
      have hzs : (Builtin.zeroCells zero.cells (xs.length - i)).toList.length = (xs.length - i) * z := by rw [Array.length_toList, zeroCells_size, hzl]
      have hxl := flatMap_len hl xs
      have hmul : i * z + (xs.length - i) * z = xs.length * z := by rw [← Nat.add_mul]; congr 1; omega
      obtain ⟨w', e1, e2, e3, e4, e5, e6⟩ := run_storeCells (P := P) (b := b) (off := off + i * z) (Builtin.zeroCells zero.cells (xs.length - i)).toList 0 w _ hb (by simp only [List.length_append, hzs, hxl, h3]; omega) (zeroCells_cell hzc _)
      have hci : ¬ (c = i) := by omega
      refine estep_value (v := .tuple #[]) (w' := w') ?_ ⟨_, rfl, ?_⟩
      · have hx' : opv G x = some (.slice (some ⟨b, off + i * z, none⟩) (xs.length - i) c') := by rw [hx]; simp [slOff, hci, add_lit]
        obtain ⟨m, hm⟩ : ∃ m, xs.length - i = m + 1 := ⟨xs.length - i - 1, by omega⟩
        rw [hm] at hx' e1
        unfold execOp
        simp [ho, st.eval hx', resolve, invoke, builtin, Builtin.clear_, ht, run_underlying hu, h0 w, e1]
      · have e7 : ((pre ++ (xs.flatMap enc ++ (spare ++ post))).take (off + i * z + 0) ++ (Builtin.zeroCells zero.cells (xs.length - i)).toList ++ (pre ++ (xs.flatMap enc ++ (spare ++ post))).drop (off + i * z + 0 + (Builtin.zeroCells zero.cells (xs.length - i)).toList.length)) = pre ++ ((xs.take i).flatMap enc ++ (((Builtin.zeroCells zero.cells (xs.length - i)).toList ++ spare) ++ post)) := by
          have hxx : xs.flatMap enc = (xs.take i).flatMap enc ++ (xs.drop i).flatMap enc := by rw [← List.flatMap_append, List.take_append_drop]
          have hl1 : ((xs.take i).flatMap enc).length = i * z := by rw [flatMap_len hl, List.length_take, Nat.min_eq_left hi]
          have hl2 : ((xs.drop i).flatMap enc).length = (xs.length - i) * z := by rw [flatMap_len hl, List.length_drop]
          have t1 : (pre ++ (xs.flatMap enc ++ (spare ++ post))).take (off + i * z + 0) = pre ++ (xs.take i).flatMap enc := by
            have e8 : pre ++ (xs.flatMap enc ++ (spare ++ post)) = (pre ++ (xs.take i).flatMap enc) ++ ((xs.drop i).flatMap enc ++ (spare ++ post)) := by rw [hxx]; simp
            rw [e8]
            exact List.take_left' (by rw [List.length_append, h3, hl1, Nat.add_zero])
          have t2 : (pre ++ (xs.flatMap enc ++ (spare ++ post))).drop (off + i * z + 0 + (Builtin.zeroCells zero.cells (xs.length - i)).toList.length) = spare ++ post := by
            have e8 : pre ++ (xs.flatMap enc ++ (spare ++ post)) = (pre ++ ((xs.take i).flatMap enc ++ (xs.drop i).flatMap enc)) ++ (spare ++ post) := by rw [hxx]; simp
            rw [e8]
            exact List.drop_left' (by simp only [List.length_append, h3, hl1, hl2, hzs]; omega)
          rw [t1, t2]; simp
        rw [e7] at e5
        have s2 := s1.set _ e2 e3 e4 e5 e6
        refine s2.head fun q hq => .inr ⟨b, off, c, pre, (Builtin.zeroCells zero.cells (xs.length - i)).toList ++ spare, post, by simp [Nat.min_eq_left hi], hq, h3, by simp; omega, ?_⟩
        rw [List.length_append, hzs, h5, List.length_take, Nat.min_eq_left hi, ← Nat.add_mul]
        congr 1; omega
  · have hie : xs.length - i = 0 := by omega
    rw [hie] at hx
    refine estep_value (v := .tuple #[]) (w' := w) ?_ ⟨_, rfl, ?_⟩
    · unfold execOp
      cases hso : slOff a c i z <;> rw [hso] at hx <;> simp [ho, st.eval hx, resolve, invoke, builtin, Builtin.clear_, ht, run_underlying hu]
    · exact (st.sat.perm pk.perm).head fun q hq => slA_shrink hl hi hq
/-- A slice's element is at its place, also in a part. -/
theorem SlAt.dropOwn {α : Type} {enc : α → List Value} {b off n c : Nat} {xs : List α} (i : Nat) (hl : ∀ x, (enc x).length = z) (hi : i ≤ xs.length) (h : slA e z enc (.slice (some ⟨b, off, none⟩) n c) xs ∈ S) : SlAt S F b (off + i * z) z enc (xs.drop i) := by
  have := (SlAt.own hl h).part (F := F) hl hi (Nat.le_refl _)
  rwa [List.take_length] at this
end
/-! ### A list without its repetitions -/
section
variable {α : Type} [DecidableEq α]
/-- Of the first j: those that are not the one ahead of them. -/
def compT (xs : List α) : Nat → List α
  | 0 => []
  | j + 1 => match xs[j]? with
    | none => compT xs j
    | some x => if 0 < j ∧ xs[j - 1]? = some x then compT xs j else compT xs j ++ [x]
def compL (xs : List α) : List α := compT xs xs.length
theorem compT_same {xs : List α} {j : Nat} {x : α} (h : xs[j]? = some x) (h0 : 0 < j) (h1 : xs[j - 1]? = some x) : compT xs (j + 1) = compT xs j := by
  simp only [compT, h]; rw [if_pos ⟨h0, h1⟩]
theorem compT_new {xs : List α} {j : Nat} {x y : α} (h : xs[j]? = some x) (h1 : xs[j - 1]? = some y) (hn : x ≠ y) : compT xs (j + 1) = compT xs j ++ [x] := by
  simp only [compT, h]; rw [if_neg (fun hh => hn (by have := h1.symm.trans hh.2; exact (Option.some.inj this).symm))]
theorem compT_one {xs : List α} {x : α} (h : xs[0]? = some x) : compT xs 1 = [x] := by
  simp [compT, h]
theorem compT_le (xs : List α) (j : Nat) : (compT xs j).length ≤ j := by
  induction j with
  | zero => simp [compT]
  | succ j ih =>
    simp only [compT]
    split
    · omega
    · split
      · omega
      · simp; omega
omit [DecidableEq α] in
theorem take_succ_get {xs : List α} {j : Nat} {x : α} (h : xs[j]? = some x) : xs.take (j + 1) = xs.take j ++ [x] := by
  rw [List.take_add_one, h]; rfl
theorem compL_few {xs : List α} (h : xs.length < 2) : compL xs = xs := by
  cases xs with
  | nil => rfl
  | cons x xs => cases xs with
    | nil => rfl
    | cons y ys => simp at h; omega
omit [DecidableEq α] in
theorem mid_get {C ys : List α} {j m : Nat} (h : C.length = j) (hm : j ≤ m) : (C ++ ys.drop j)[m]? = ys[m]? := by
  rw [List.getElem?_append_right (by omega), List.getElem?_drop, h]
  congr 1; omega
omit [DecidableEq α] in
theorem mid_len {C ys : List α} {j : Nat} (h : C.length = j) (hj : j ≤ ys.length) : (C ++ ys.drop j).length = ys.length := by
  rw [List.length_append, List.length_drop]; omega
omit [DecidableEq α] in
theorem mid_take {C ys : List α} {j : Nat} (h : C.length = j) : (C ++ ys.drop j).take j = C := List.take_left' h
omit [DecidableEq α] in
theorem mid_row {C ys : List α} {j k i : Nat} {x : α} (h : C.length = j) (hm : j ≤ k + i) (hx : ys[k + i]? = some x) : ((C ++ ys.drop j).drop k)[i]? = some x := by
  rw [List.getElem?_drop, mid_get h hm, hx]
theorem compT_start {xs : List α} (h : 0 < xs.length) : compT xs 1 = xs.take 1 := by
  cases xs with
  | nil => simp at h
  | cons x xs => simp [compT]
theorem compT_step {xs : List α} {j : Nat} {x y : α} (hk : compT xs j = xs.take j) (h : xs[j]? = some x) (h1 : xs[j - 1]? = some y) (hn : x ≠ y) : compT xs (j + 1) = xs.take (j + 1) := by
  rw [compT_new h h1 hn, hk, take_succ_get h]
theorem compL_all {xs : List α} {j : Nat} (h : compT xs j = xs.take j) (hj : xs.length = j) : compL xs = xs := by
  unfold compL
  rw [hj, h, ← hj, List.take_length]
omit [DecidableEq α] in
theorem set_mid {C ys : List α} {x : α} {k : Nat} (h : C.length = k) (hk : k < (C ++ ys.drop k).length) : (C ++ ys.drop k).set k x = (C ++ [x]) ++ ys.drop (k + 1) := by
  subst h
  simp only [List.length_append, List.length_drop] at hk
  rw [List.set_append_right _ _ (Nat.le_refl _), Nat.sub_self, List.drop_eq_getElem_cons (by omega), List.set_cons_zero, List.append_assoc]
  rfl
end
end Slb
