/- Base 17: an array's element; strings. -/
import Derived.Test.YtjieokfcpbillaaB16
namespace Slb
open Go Go.Proofs
section
variable {P : Program} {N : Nat} {G : Env} {S : List HProp} {F : Fr} {o : Oper} {t t' e : TypeId} {x y : Operand}
/-- An element of an array that is a value. -/
theorem QP.indexL {l : List Value} {i : Int} {n : Nat} {v : Value} (ho : o.op = .index t x y) (hx : opv G x = some (.agg l.toArray)) (hy : opv G y = some (.int .i64 i))
    (hu : P.underlying t = some (.array n e)) (hs : Sca P e) (h0 : 0 ≤ i) (h1 : i < n) (hv : SubL l i.toNat 1 [v]) : QP P N G S F o v := fun a w s w' => by
  unfold execOp
  simp [ho, s.eval hx, s.eval hy, Instr.index, asIntOf, run_underlying hu, h0, h1, hs.size w', run_part1 hs w' hv]
end
/-! ### Parts of slices -/
def slOff (a : Option Addr) (c i z : Nat) : Option Addr := if c = i then a else a.map fun x => x.add (i * z)
section
variable {P : Program} {N : Nat} {G : Env} {S : List HProp} {F : Fr} {o : Oper} {t e : TypeId} {x y y2 : Operand} {z : Nat}
theorem QP.sliceHi {a : Option Addr} {n c : Nat} {j : Int} (ho : o.op = .slice t x none (some y) none) (hx : opv G x = some (.slice a n c)) (hy : opv G y = some (.int .i64 j))
    (hu : P.underlying t = some (.slice e)) (hz : Sz P e z) (h0 : 0 ≤ j) (h1 : j ≤ c) : QP P N G S F o (.slice (slOff a c 0 z) (j.toNat - 0) (c - 0)) := fun ac w s w' => by
  unfold execOp
  simp [ho, s.eval hx, s.eval hy, Instr.sliceAt, Instr.slice, Instr.sliceBounds, Instr.sliceBound, asIntOf, run_underlying hu, hz w', h0, h1, slOff]
theorem QP.sliceLo {a : Option Addr} {n c : Nat} {i : Int} (ho : o.op = .slice t x (some y) none none) (hx : opv G x = some (.slice a n c)) (hy : opv G y = some (.int .i64 i))
    (hu : P.underlying t = some (.slice e)) (hz : Sz P e z) (h0 : 0 ≤ i) (h1 : i ≤ n) : QP P N G S F o (.slice (slOff a c i.toNat z) (n - i.toNat) (c - i.toNat)) := fun ac w s w' => by
  unfold execOp
  simp [ho, s.eval hx, s.eval hy, Instr.sliceAt, Instr.slice, Instr.sliceBounds, Instr.sliceBound, asIntOf, run_underlying hu, hz w', h0, h1, slOff]
/-- A slice's head: nil, or at a place. -/
def SlH {α : Type} (a : Option Addr) (c : Nat) (xs : List α) : Prop := (a = none ∧ c = 0 ∧ xs = []) ∨ ((∃ b off, a = some ⟨b, off, none⟩) ∧ xs.length ≤ c)
theorem Sat.slCase {α : Type} {enc : α → List Value} {v : Value} {xs : List α} {w : World} (h : slA e z enc v xs ∈ S) (s : Sat S F w) : ∃ a c, v = .slice a xs.length c ∧ SlH a c xs := by
  obtain ⟨p, hp, _⟩ := s.memX h
  rcases hp with ⟨rfl, rfl, _⟩ | ⟨b, off, c, pre, spare, post, rfl, _, _, h4, _⟩
  · exact ⟨none, 0, rfl, .inl ⟨rfl, rfl, rfl⟩⟩
  · exact ⟨_, c, rfl, .inr ⟨⟨b, off, rfl⟩, h4⟩⟩
theorem J.slCase {N : Nat} {G : Env} {Φ : Act → World → Prop} {α : Type} {enc : α → List Value} {v : Value} {xs : List α} (h : slA e z enc v xs ∈ S) (j : ∀ a c, v = .slice a xs.length c → SlH a c xs → J N G S F Φ) : J N G S F Φ := fun ac w s => by
  obtain ⟨a, c, h1, h2⟩ := Sat.slCase h s.sat
  exact j a c h1 h2 ac w s
theorem SlH.get {α : Type} {a : Option Addr} {c : Nat} {xs : List α} (h : SlH a c xs) (h0 : 0 < xs.length) : ∃ b off, a = some ⟨b, off, none⟩ := by
  rcases h with ⟨_, _, rfl⟩ | ⟨h, _⟩
  · simp at h0
  · exact h
theorem SlH.le {α : Type} {a : Option Addr} {c : Nat} {xs : List α} (h : SlH a c xs) : xs.length ≤ c := by
  rcases h with ⟨_, rfl, rfl⟩ | ⟨_, h⟩
  · exact Nat.le_refl _
  · exact h
/-- The rows of a part of a slice. -/
theorem RowsAt.cut {α : Type} {enc : α → List Value} {a : Option Addr} {c i j : Nat} {xs : List α} (hl : ∀ x, (enc x).length = z) (hh : SlH a c xs) (h : ∀ b off, a = some ⟨b, off, none⟩ → SlAt S F b off z enc xs) (hij : i ≤ j) (hj : j ≤ xs.length) :
    RowsAt S F (.slice (slOff a c i z) (j - i) (c - i)) ((xs.take j).drop i).length z (((xs.take j).drop i).flatMap enc) := by
  refine ⟨flatMap_len hl _, ?_⟩
  have hlen : ((xs.take j).drop i).length = j - i := by simp; omega
  rcases hh with ⟨rfl, rfl, rfl⟩ | ⟨⟨b, off, rfl⟩, hc⟩
  · left
    simp at hj; subst hj
    obtain rfl : i = 0 := by omega
    simp [slOff]
  · right
    have hs := (h b off rfl).part hl hij hj
    by_cases hci : c = i
    · refine ⟨b, off, c - i, by rw [hlen]; simp [slOff, hci], fun w s => ?_⟩
      obtain ⟨l, ty, fz, h1, pre, post, h2, h3, h4⟩ := h b off rfl w s
      have hnil : (xs.take j).drop i = [] := List.eq_nil_of_length_eq_zero (by omega)
      refine ⟨l, ty, fz, h1, ?_⟩
      rw [hnil]
      exact ⟨pre, xs.flatMap enc ++ post, by simp [h2], h3, by simp⟩
    · refine ⟨b, off + i * z, c - i, by rw [hlen]; simp [slOff, hci, add_lit], hs⟩
theorem RowsAt.cutOwn {α : Type} {enc : α → List Value} {a : Option Addr} {c i j : Nat} {xs : List α} (hl : ∀ x, (enc x).length = z) (hh : SlH a c xs) (h : slA e z enc (.slice a xs.length c) xs ∈ S) (hij : i ≤ j) (hj : j ≤ xs.length) :
    RowsAt S F (.slice (slOff a c i z) (j - i) (c - i)) ((xs.take j).drop i).length z (((xs.take j).drop i).flatMap enc) :=
  RowsAt.cut hl hh (fun b off h1 => by subst h1; exact SlAt.own hl h) hij hj
/-- The slice itself is cut: its head goes on. -/
theorem slA_drop {α : Type} {enc : α → List Value} {a : Option Addr} {c i : Nat} {xs : List α} (hl : ∀ x, (enc x).length = z) (hi : i ≤ xs.length) {h : PH} (hs : slA e z enc (.slice a xs.length c) xs h) : ∃ h', PH.le h' h ∧ slA e z enc (.slice (slOff a c i z) (xs.length - i) (c - i)) (xs.drop i) h' := by
  rcases hs with ⟨h1, rfl, rfl⟩ | ⟨b, off, c', pre, spare, post, h1, rfl, h3, h4, h5⟩
  · simp only [Value.slice.injEq] at h1
    obtain ⟨rfl, _, rfl⟩ := h1
    simp at hi; subst hi
    exact ⟨PH.none, PH.none_le _, .inl ⟨by simp [slOff], rfl, rfl⟩⟩
  · simp only [Value.slice.injEq, true_and] at h1
    obtain ⟨rfl, rfl⟩ := h1
    have hx : xs.flatMap enc = (xs.take i).flatMap enc ++ (xs.drop i).flatMap enc := by rw [← List.flatMap_append, List.take_append_drop]
    by_cases hci : c = i
    · have hxi : xs.drop i = [] := List.drop_eq_nil_of_le (by omega)
      refine ⟨_, PH.le.refl _, .inr ⟨b, off, 0, pre, [], xs.flatMap enc ++ (spare ++ post), ?_, ?_, h3, by rw [hxi]; exact Nat.le_refl _, by simp⟩⟩
      · simp [slOff, hci, hxi]; omega
      · rw [hxi]; simp
    · refine ⟨_, PH.le.refl _, .inr ⟨b, off + i * z, c - i, pre ++ (xs.take i).flatMap enc, spare, post, ?_, ?_, ?_, by simp; omega, ?_⟩⟩
      · simp [slOff, hci, add_lit]
      · rw [hx]; simp
      · rw [List.length_append, h3, flatMap_len hl, List.length_take, Nat.min_eq_left hi]
      · rw [h5, List.length_drop]; congr 1; omega
end
/-! ### Calling a function's value -/
section
variable {P : Program} {N : Nat} {G : Env} {S : List HProp} {F : Fr}
theorem EF.callV {o : Oper} {f : FuncId} {x : Operand} {cap : Array Value} {args : Array Operand} {at_ : Array TypeId} {vs : List Value} {m r : List HProp} {R : Value → List HProp → Prop}
    (ho : o.op = .call ⟨.value x, args, at_⟩) (hx : opv G x = some (.func (.func f) #[] cap)) (hc : CanEnter P f) (hv : opvs G args.toList = some vs) (t : Takes S m r)
    (hs : ∀ F' : Fr, PH.le F.h F'.h → (∀ b o, pts b o ∈ r → F'.h b = some o) → Spec P f (vs ++ cap.toList).toArray m F' R) : EF P N G S F o fun v S' => ∃ S1, R v S1 ∧ S' = S1 ++ r := fun a w s => by
  have hargs : args.map a.eval = vs.toArray := by
    have := s.evals hv
    rw [← this]
    apply Array.ext'
    simp
  have hrun : (execOp a.eval o).run P w = .ok (.enter f (vs ++ cap.toList).toArray) w := by
    unfold execOp
    simp only [ho, resolve, s.eval hx, Deferred.ofValue]
    rw [hargs]
    have e : vs.toArray ++ cap = (vs ++ cap.toList).toArray := by apply Array.ext'; simp
    have h2 := run_enter hc (vs ++ cap.toList).toArray w
    simp only [Array.empty_append, Sem.run_bind, Sem.run_pure, Result.andThen_ok, invoke]
    rw [e, h2]
  show EStep P o a w _
  unfold EStep
  rw [hrun]
  obtain ⟨F', s1, hle, hr, back⟩ := (s.sat.takes t).lend
  refine (hs F' hle hr w s1).mono fun e w' ⟨v, S', he, hR, s'⟩ => ?_
  subst he
  exact ⟨S' ++ r, ⟨S', hR, rfl⟩, back _ _ s'⟩
theorem QP.field {o : Oper} {t : TypeId} {x : Operand} {f off : Nat} {l : List Value} {k : Nat} {s : List Value} {fs : Array Field} {fd : Field} (ho : o.op = .field t x f) (hx : opv G x = some (.agg l.toArray)) (hu : P.underlying t = some (.struct fs)) (hf : fs[f]? = some fd) (hoff : fd.offset = off) (ht : Agg P fd.type k) (hs : SubL l off k s) : QP P N G S F o (.agg s.toArray) := fun ac w st w' => by
  unfold execOp
  simp [ho, st.eval hx, Instr.field, run_underlying hu, hf, hoff, asAgg, run_part ht w' hs]
theorem QP.field1 {o : Oper} {t : TypeId} {x : Operand} {f off : Nat} {l : List Value} {v : Value} {fs : Array Field} {fd : Field} (ho : o.op = .field t x f) (hx : opv G x = some (.agg l.toArray)) (hu : P.underlying t = some (.struct fs)) (hf : fs[f]? = some fd) (hoff : fd.offset = off) (ht : Sca P fd.type) (hs : SubL l off 1 [v]) : QP P N G S F o v := fun ac w st w' => by
  unfold execOp
  simp [ho, st.eval hx, Instr.field, run_underlying hu, hf, hoff, asAgg, run_part1 ht w' hs]
theorem QP.rem {o : Oper} {t t' : TypeId} {x y : Operand} {k : IntKind} {m n : Int} (ho : o.op = .binOp .rem t x y t') (hx : opv G x = some (.int k m)) (hy : opv G y = some (.int k n)) (h0 : n ≠ 0) : QP P N G S F o (.int k (m.tmod n)) := fun a w s w' => by
  unfold execOp; simp [ho, s.eval hx, s.eval hy, eqGuard_at_int, binOp, Op.intDiv, h0]
theorem QP.quo {o : Oper} {t t' : TypeId} {x y : Operand} {k : IntKind} {m n : Int} (ho : o.op = .binOp .quo t x y t') (hx : opv G x = some (.int k m)) (hy : opv G y = some (.int k n)) (h0 : n ≠ 0) : QP P N G S F o (.int k (k.wrap (m.tdiv n))) := fun a w s w' => by
  unfold execOp; simp [ho, s.eval hx, s.eval hy, eqGuard_at_int, binOp, Op.intDiv, h0]
end
section
variable {P : Program} {N : Nat} {G : Env} {S : List HProp} {F : Fr} {o : Oper} {t e : TypeId} {z : Nat}
theorem EF.conseq {next next' : Value → List HProp → Prop} (h : EF P N G S F o next) (hs : ∀ v S', next v S' → ∃ S2, next' v S2 ∧ ∀ w, Sat S' F w → Sat S2 F w) : EF P N G S F o next' := fun a w s =>
  (h a w s).mono fun v w' ⟨S', h1, h2⟩ => by
    obtain ⟨S2, h3, h4⟩ := hs v S' h1
    exact ⟨S2, h3, h4 w' h2⟩
theorem slA_zero {α : Type} {enc : α → List Value} {b : Nat} {h : PH} (hh : blk b [] e h) : slA e z enc (.slice (some ⟨b, 0, none⟩) 0 0) [] h :=
  .inr ⟨b, 0, 0, [], [], [], rfl, hh, rfl, Nat.le_refl _, by simp⟩
theorem slA_one {α : Type} {enc : α → List Value} {b : Nat} {x : α} {h : PH} (hh : blk b (enc x) e h) : slA e z enc (.slice (some ⟨b, 0, none⟩) 1 1) [x] h :=
  .inr ⟨b, 0, 1, [], [], [], rfl, by rw [show h = _ from hh]; simp, rfl, Nat.le_refl _, by simp⟩
theorem EF.buildSlice0 {α : Type} {enc : α → List Value} {zero : Value} (ho : o.op = .buildSlice t 0 #[]) (hu : P.underlying t = some (.slice e)) (hz : Sz P e z)
    (h0 : Zero P e zero) (hzl : zero.cells.size = z) (hz0 : z ≠ 0) :
    EF P N G S F o fun u S' => ∃ b, u = .slice (some ⟨b, 0, none⟩) 0 0 ∧ S' = slA e z enc u [] :: S :=
  (EF.buildSlice (N := N) (S := S) (F := F) (vs := []) ho hu hz h0 hzl (by omega) (by rfl) rfl rfl (by simp) hz0).conseq fun v S' ⟨b, h1, h2⟩ => by
    subst h2; subst h1
    exact ⟨_, ⟨b, rfl, rfl⟩, fun w s => s.head fun h hh => slA_zero hh⟩
theorem EF.buildSliceN {α : Type} {enc : α → List Value} {xs : List α} {n : Nat} {parts : Array (Nat × Operand)} {zero : Value} (ho : o.op = .buildSlice t n parts) (hu : P.underlying t = some (.slice e)) (hz : Sz P e z)
    (h0 : Zero P e zero) (hzl : zero.cells.size = z) (hn : n * z ≤ 16777216) (hi : parts.toList.map (·.1) = List.range n) (hv : opvs G (parts.toList.map (·.2)) = some (xs.map fun x => .agg (enc x).toArray)) (hxn : xs.length = n) (hl : ∀ x, (enc x).length = z) (hz0 : z ≠ 0) :
    EF P N G S F o fun u S' => ∃ b, u = .slice (some ⟨b, 0, none⟩) n n ∧ S' = blk b (xs.flatMap enc) e :: S := by
  have := EF.buildSlice (N := N) (S := S) (F := F) ho hu hz h0 hzl hn hi hv (by simpa using hxn) (fun v hv => by obtain ⟨x, _, rfl⟩ := List.mem_map.1 hv; simp [Value.cells, hl]) hz0
  have e1 : ((xs.map fun x => Value.agg (enc x).toArray).flatMap fun v => v.cells.toList) = xs.flatMap enc := by simp [List.flatMap_map, Value.cells]
  rw [e1] at this
  exact this
/-- A row of a slice is written. -/
theorem EF.storeSlF {α : Type} {enc : α → List Value} {x y : Operand} {b off i fo k n c : Nat} {v : Value} {xs : List α} {s : α} {S1 : List HProp} (ho : o.op = .store t x y) (hx : opv G x = some (.pointer (some ⟨b, off + i * z + fo, none⟩))) (hy : opv G y = some v)
    (hz : Sz P t k) (pk : Pick S (slA e z enc (.slice (some ⟨b, off, none⟩) n c) xs) S1) (hl : ∀ x, (enc x).length = z) (hi : i < xs.length) (hset : ∀ x, xs[i]? = some x → SetL (enc x) fo k v.cells.toList (enc s)) (hv : ∀ u ∈ v.cells.toList, Value.cellB u = true) :
    EF P N G S F o fun _ S2 => S2 = slA e z enc (.slice (some ⟨b, off, none⟩) n c) (xs.set i s) :: S1 := fun a w st => by
  obtain ⟨p, hp, back⟩ := (st.sat.perm pk.perm).unpack
  rcases hp with ⟨h1, _, _⟩ | ⟨b', off', c', pre, spare, post, h1, rfl, h3, h4, h5⟩
  · cases h1
  · simp only [Value.slice.injEq, Option.some.injEq, Addr.mk.injEq, and_true] at h1
    obtain ⟨⟨rfl, rfl⟩, rfl, rfl⟩ := h1
    have s1 : Sat (blk b (pre ++ (xs.flatMap enc ++ (spare ++ post))) e :: S1) F w := back [blk b (pre ++ (xs.flatMap enc ++ (spare ++ post))) e] (stars_one.2 rfl)
    obtain ⟨x0, hx0⟩ : ∃ x0, xs[i]? = some x0 := ⟨_, List.getElem?_eq_getElem hi⟩
    have hrow : SetL (xs.flatMap enc) (i * z + fo) k v.cells.toList ((xs.set i s).flatMap enc) :=
      (set_row hl s hi).trans (sub_row hl hx0) (hset x0 hx0)
    have hs : SetL (pre ++ (xs.flatMap enc ++ (spare ++ post))) (off + i * z + fo) k v.cells.toList (pre ++ ((xs.set i s).flatMap enc ++ (spare ++ post))) := by
      have := SetL.right (m := pre) h3 (SetL.left (m := spare ++ post) hrow)
      rwa [← Nat.add_assoc] at this
    have := EF.storeU (P := P) (N := N) (G := G) (F := F) (S := blk b (pre ++ (xs.flatMap enc ++ (spare ++ post))) e :: S1) ho hx hy hz hs hv Upd.head a w (st.world s1)
    refine this.mono fun v' w' ⟨S', h6, h7⟩ => ⟨_, rfl, ?_⟩
    subst h6
    refine h7.head fun q hq => .inr ⟨b, off, c, pre, spare, post, by simp, hq, h3, by simpa using h4, by simpa using h5⟩
theorem EF.storeSl {α : Type} {enc : α → List Value} {x y : Operand} {b off i n c : Nat} {xs : List α} {s : α} {S1 : List HProp} (ho : o.op = .store t x y) (hx : opv G x = some (.pointer (some ⟨b, off + i * z, none⟩))) (hy : opv G y = some (.agg (enc s).toArray))
    (hz : Sz P t z) (pk : Pick S (slA e z enc (.slice (some ⟨b, off, none⟩) n c) xs) S1) (hl : ∀ x, (enc x).length = z) (hc : ∀ x, ∀ v ∈ enc x, Value.cellB v = true) (hi : i < xs.length) :
    EF P N G S F o fun _ S2 => S2 = slA e z enc (.slice (some ⟨b, off, none⟩) n c) (xs.set i s) :: S1 :=
  EF.storeSlF (fo := 0) ho hx hy hz pk hl hi (fun x _ => by simpa [Value.cells] using SetL.all (hl x) (hl s)) (by simpa [Value.cells] using hc s)
theorem Sq.slCase {ops : Array Oper} {l : List Nat} {K : Posts} {α : Type} {enc : α → List Value} {v : Value} {xs : List α} (h : slA e z enc v xs ∈ S) (j : ∀ a c, v = .slice a xs.length c → SlH a c xs → Sq P N ops l K G S F) : Sq P N ops l K G S F := J.slCase h j
theorem Dw.slCase {ops : Array Oper} {M : List Nat} {q r : Nat} {D : List Nat} {k : Act → World → Prop} {α : Type} {enc : α → List Value} {v : Value} {xs : List α} (h : slA e z enc v xs ∈ S) (j : ∀ a c, v = .slice a xs.length c → SlH a c xs → Dw P N ops M q r D k G S F) : Dw P N ops M q r D k G S F := J.slCase h j
end
/-! ### Deleting what is so -/
section dels
variable {K V : Type} [DecidableEq K]
theorem adel_filter {M : List (K × V)} (hn : (M.map (·.1)).Nodup) (k : K) : adel M k = M.filter fun e => decide (e.1 ≠ k) := by
  induction M with
  | nil => rfl
  | cons e M ih =>
    obtain ⟨a, v⟩ := e
    simp only [List.map_cons, List.nodup_cons] at hn
    unfold adel
    by_cases h : a = k
    · subst h
      simp only [if_true, ne_eq, not_true_eq_false, decide_false, Bool.false_eq_true, not_false_eq_true, List.filter_cons_of_neg]
      refine (List.filter_eq_self.2 fun e he => ?_).symm
      simp only [decide_eq_true_eq]
      rintro rfl
      exact hn.1 (List.mem_map.2 ⟨e, he, rfl⟩)
    · simp [h, ih hn.2]
omit [DecidableEq K] in
theorem nodup_filter {M : List (K × V)} (hn : (M.map (·.1)).Nodup) (p : K × V → Bool) : ((M.filter p).map (·.1)).Nodup := hn.sublist (List.filter_sublist.map _)
theorem key_unique {M : List (K × V)} (hn : (M.map (·.1)).Nodup) {a b : K × V} (ha : a ∈ M) (hb : b ∈ M) (h : a.1 = b.1) : a = b := by
  obtain ⟨k, x⟩ := a
  obtain ⟨k', y⟩ := b
  simp only at h
  subst h
  have h1 := alook_mem_of_nodup hn ha
  have h2 := alook_mem_of_nodup hn hb
  rw [h1] at h2
  cases h2; rfl
def delsE (d : V → Bool) (key : V → K) (E : List (K × (Nat × V))) (l : List V) : List (K × (Nat × V)) := l.foldl (fun E s => if d s then adel E (key s) else E) E
def delsM (d : V → Bool) (key : V → K) (M : List (K × V)) (l : List V) : List (K × V) := l.foldl (fun M s => if d s then adel M (key s) else M) M
theorem delsE_succ (d : V → Bool) (key : V → K) (E : List (K × (Nat × V))) {ys : List V} {i : Nat} {s : V} (h : ys[i]? = some s) : delsE d key E (ys.take (i + 1)) = if d s then adel (delsE d key E (ys.take i)) (key s) else delsE d key E (ys.take i) := by
  rw [List.take_add_one, h]
  simp [delsE, List.foldl_append]
theorem vals_delsE (d : V → Bool) (key : V → K) (l : List V) : ∀ E : List (K × (Nat × V)), vals (delsE d key E l) = delsM d key (vals E) l := by
  induction l with
  | nil => intro E; rfl
  | cons s l ih =>
    intro E
    simp only [delsE, delsM, List.foldl_cons]
    by_cases h : d s = true
    · simp only [h, if_true]
      rw [← vals_adel]; exact ih _
    · simp only [h]
      exact ih _
theorem delsM_filter (d : V → Bool) (key : V → K) (l : List V) : ∀ {M : List (K × V)}, (M.map (·.1)).Nodup → delsM d key M l = M.filter fun e => !(l.any fun s => d s && decide (key s = e.1)) := by
  induction l with
  | nil => intro M _; simp only [delsM, List.foldl_nil, List.any_nil, Bool.not_false]; exact (List.filter_eq_self.2 fun _ _ => rfl).symm
  | cons s l ih =>
    intro M hn
    simp only [delsM, List.foldl_cons]
    by_cases h : d s = true
    · simp only [h, if_true]
      have h1 := adel_filter hn (key s)
      have hn' : ((adel M (key s)).map (·.1)).Nodup := by rw [h1]; exact nodup_filter hn _
      have := ih hn'
      unfold delsM at this
      rw [this, h1, List.filter_filter]
      congr 1
      funext e
      simp only [List.any_cons, h, Bool.true_and, Bool.not_or, ne_eq, decide_not]
      rw [Bool.and_comm]
      congr 2
      exact decide_eq_decide.2 eq_comm
    · have h' : d s = false := by simpa using h
      simp only [h', Bool.false_eq_true, if_false]
      have := ih hn
      unfold delsM at this
      rw [this]
      congr 1
      funext e
      simp [List.any_cons, h']
theorem delsM_all {d : V → Bool} {key : V → K} {M : List (K × V)} (hn : (M.map (·.1)).Nodup) (hk : ∀ e ∈ M, e.1 = key e.2) {ys : List V} (hp : ys.Perm (M.map (·.2))) : delsM d key M ys = M.filter fun e => !d e.2 := by
  rw [delsM_filter d key ys hn]
  refine List.filter_congr fun e he => ?_
  congr 1
  cases ho : d e.2 with
  | true =>
    rw [List.any_eq_true]
    exact ⟨e.2, hp.symm.subset (List.mem_map.2 ⟨e, he, rfl⟩), by simp [ho, (hk e he).symm]⟩
  | false =>
    rw [List.any_eq_false]
    intro s hs hc
    simp only [Bool.and_eq_true, decide_eq_true_eq] at hc
    obtain ⟨e', he', rfl⟩ := List.mem_map.1 (hp.subset hs)
    have : e' = e := key_unique hn he' he (by rw [hk e' he']; exact hc.2)
    subst this
    rw [ho] at hc
    cases hc.1
theorem rows_delsE (d : V → Bool) (key : V → K) (enc : V → List Value) (ty : TypeId) (l : List V) : ∀ E : List (K × (Nat × V)), ∃ rr, (rows enc ty E).Perm (rows enc ty (delsE d key E l) ++ rr) := by
  induction l with
  | nil => intro E; exact ⟨[], by simp [delsE]⟩
  | cons s l ih =>
    intro E
    simp only [delsE, List.foldl_cons]
    by_cases h : d s = true
    · simp only [h, if_true]
      obtain ⟨r1, p1⟩ := rows_adel enc ty E (key s)
      obtain ⟨r2, p2⟩ := ih (adel E (key s))
      exact ⟨r2 ++ r1, p1.trans (by rw [← List.append_assoc]; exact List.Perm.append_right _ p2)⟩
    · simp only [h]
      exact ih E
theorem filter_succ {α : Type} (d : α → Bool) {ys : List α} {i : Nat} {s : α} (h : ys[i]? = some s) : (ys.take (i + 1)).filter d = (ys.take i).filter d ++ (if d s then [s] else []) := by
  rw [List.take_add_one, h]
  simp only [Option.toList_some, List.filter_append]
  congr 1
  cases hd : d s <;> simp [hd]
theorem len_aset (M : List (K × V)) (k : K) (v : V) : (aset M k v).length = if (alook M k).isSome then M.length else M.length + 1 := by
  induction M with
  | nil => simp [aset, alook]
  | cons x M ih =>
    obtain ⟨a, u⟩ := x
    unfold aset alook
    by_cases hk : a = k
    · simp [hk]
    · simp only [if_neg hk, List.length_cons, ih]
      split <;> rfl
theorem mem_aset {M : List (K × V)} {k : K} {v : V} {e : K × V} (h : e ∈ aset M k v) : e = (k, v) ∨ e ∈ M := by
  induction M with
  | nil => simp [aset] at h; exact .inl h
  | cons x M ih =>
    obtain ⟨a, u⟩ := x
    unfold aset at h
    by_cases hk : a = k
    · rw [if_pos hk] at h
      rcases List.mem_cons.1 h with h | h
      · exact .inl h
      · exact .inr (List.mem_cons_of_mem _ h)
    · rw [if_neg hk] at h
      rcases List.mem_cons.1 h with h | h
      · exact .inr (h ▸ List.mem_cons_self)
      · rcases ih h with h | h
        · exact .inl h
        · exact .inr (List.mem_cons_of_mem _ h)
theorem alook_aset_self (M : List (K × V)) (k : K) (v : V) : alook (aset M k v) k = some v := by
  induction M with
  | nil => simp [aset, alook]
  | cons x M ih =>
    obtain ⟨a, u⟩ := x
    unfold aset
    by_cases hk : a = k
    · rw [if_pos hk]; simp [alook]
    · rw [if_neg hk]; simp [alook, hk, ih]
theorem alook_aset_ne {M : List (K × V)} {k k' : K} {v : V} (h : k ≠ k') : alook (aset M k v) k' = alook M k' := by
  induction M with
  | nil => simp [aset, alook, h]
  | cons x M ih =>
    obtain ⟨a, u⟩ := x
    unfold aset
    by_cases hk : a = k
    · subst hk; rw [if_pos rfl]; simp [alook, h]
    · rw [if_neg hk]
      by_cases hk' : a = k'
      · simp [alook, hk']
      · simp [alook, hk', ih]
theorem alook_none_mem {M : List (K × V)} {k : K} (h : ∀ e ∈ M, e.1 ≠ k) : alook M k = none := alook_none.2 h
theorem aset_aset (M : List (K × V)) (k : K) (u v : V) : aset (aset M k u) k v = aset M k v := by
  induction M with
  | nil => simp [aset]
  | cons x M ih =>
    obtain ⟨a, w⟩ := x
    by_cases hk : a = k
    · simp [aset, hk]
    · simp [aset, hk, ih]
theorem adel_aset {M : List (K × V)} {k : K} {v : V} (h : alook M k = none) : adel (aset M k v) k = M := by
  rw [aset_none h]
  have : ∀ M : List (K × V), alook M k = none → adel (M ++ [(k, v)]) k = M := by
    intro M
    induction M with
    | nil => intro _; simp [adel]
    | cons x M ih =>
      obtain ⟨a, u⟩ := x
      intro h
      unfold alook at h
      by_cases hk : a = k
      · simp [hk] at h
      · rw [if_neg hk] at h
        simp [adel, hk, ih h]
  exact this M h
end dels
end Slb
