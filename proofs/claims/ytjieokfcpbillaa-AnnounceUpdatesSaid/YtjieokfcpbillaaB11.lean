/- Base 11: slices that are read; append of one; slices that are written out. -/
import Derived.Test.YtjieokfcpbillaaB10
namespace Slb
open Go

def elOk (P : Program) (e z : Nat) : Bool := match P.info? e with
  | some i => Nat.beq i.size z && Nat.ble i.bytes 4096 && (match i.zero with | some zv => Nat.beq zv.cells.size z | none => false)
  | none => false
theorem ElemTy.of {P : Program} {e z : Nat} (h : elOk P e z = true) : ElemTy P e z := by
  unfold elOk at h
  split at h
  · rename_i i hi
    simp only [Bool.and_eq_true] at h
    obtain ⟨⟨h1, h2⟩, h3⟩ := h
    split at h3
    · rename_i zv hz
      exact ⟨i, zv, hi, Nat.eq_of_beq_eq_true h1, Nat.le_of_ble_eq_true h2, hz, Nat.eq_of_beq_eq_true h3⟩
    · cases h3
  · cases h
section
variable {P : Program} {N : Nat} {G : Env} {S S1 : List HProp} {F : Fr} {Φ : Act → World → Prop} {α : Type} {enc : α → List Value} {e : TypeId} {z : Nat}
/-- The rows of xs lie in block b from off on. -/
def SlAt (S : List HProp) (F : Fr) (b off z : Nat) (enc : α → List Value) (xs : List α) : Prop := ∀ w, Sat S F w → ∃ l ty fz, w.heap[b]? = some (.cells l.toArray ty fz) ∧ SubL l off (xs.length * z) (xs.flatMap enc)
theorem SlAt.own {b off n c : Nat} {xs : List α} (hl : ∀ x, (enc x).length = z) (h : slA e z enc (.slice (some ⟨b, off, none⟩) n c) xs ∈ S) : SlAt S F b off z enc xs := fun w s => by
  obtain ⟨p, hp, hle⟩ := s.memX h
  rcases hp with ⟨h1, _, _⟩ | ⟨b', off', c', pre, spare, post, h1, rfl, h3, h4, h5⟩
  · cases h1
  · simp only [Value.slice.injEq, Option.some.injEq, Addr.mk.injEq, and_true] at h1
    obtain ⟨⟨rfl, rfl⟩, rfl, rfl⟩ := h1
    exact ⟨_, _, _, hle _ _ (single_self _ _), ⟨pre, spare ++ post, by simp, h3, flatMap_len hl xs⟩⟩
theorem SlAt.fr {b off : Nat} {xs : List α} {l : List Value} {ty : TypeId} {fz : Nat × Nat} (h : F.h b = some (.cells l.toArray ty fz)) (hs : SubL l off (xs.length * z) (xs.flatMap enc)) : SlAt S F b off z enc xs := fun w s => ⟨l, ty, fz, s.frame h, hs⟩
theorem SlAt.frZ {b off : Nat} {xs : List α} {l : List Value} {ty : TypeId} {fz : Nat × Nat} (hl : ∀ x, (enc x).length = z) (h : F.h b = some (.cells l.toArray ty fz)) (pre post : List Value) (h1 : l = pre ++ xs.flatMap enc ++ post) (h2 : pre.length = off) : SlAt S F b off z enc xs :=
  SlAt.fr h ⟨pre, post, h1, h2, flatMap_len hl xs⟩
theorem SlAt.row {b off i : Nat} {xs : List α} {x : α} (hl : ∀ x, (enc x).length = z) (h : SlAt S F b off z enc xs) (hi : xs[i]? = some x) {w : World} (s : Sat S F w) : ∃ l ty fz, w.heap[b]? = some (.cells l.toArray ty fz) ∧ SubL l (off + i * z) z (enc x) := by
  obtain ⟨l, ty, fz, h1, h2⟩ := h w s
  exact ⟨l, ty, fz, h1, h2.trans (sub_row hl hi)⟩
theorem QR.loadSl {o : Oper} {t : TypeId} {x : Operand} {b off i : Nat} {xs : List α} {y : α} (ho : o.op = .load t x) (hx : opv G x = some (.pointer (some ⟨b, off + i * z, none⟩))) (ht : Agg P t z) (hl : ∀ x, (enc x).length = z)
    (h : SlAt S F b off z enc xs) (hi : xs[i]? = some y) : QR P N G S F o (.agg (enc y).toArray) := fun a w st => by
  obtain ⟨l, ty, fz, h1, h2⟩ := h.row hl hi st.sat
  unfold execOp; simp [ho, st.eval hx, Instr.loadAt, Instr.sureAddr, run_loadAgg ht h1 h2]
theorem QR.loadSl1 {o : Oper} {t : TypeId} {x : Operand} {b off i : Nat} {ev : α → Value} {xs : List α} {y : α} (ho : o.op = .load t x) (hx : opv G x = some (.pointer (some ⟨b, off + i * 1, none⟩))) (ht : Sca P t)
    (h : SlAt S F b off 1 (fun x => [ev x]) xs) (hi : xs[i]? = some y) : QR P N G S F o (ev y) := fun a w st => by
  obtain ⟨l, ty, fz, h1, h2⟩ := SlAt.row (z := 1) (enc := fun x => [ev x]) (fun _ => rfl) h hi st.sat
  unfold execOp; simp only [ho, st.eval hx, Instr.loadAt, Instr.sureAddr, Sem.run_bind, Sem.run_pure, Result.andThen_ok, run_loadSca ht h1 h2]
theorem QR.loadSlF {o : Oper} {t : TypeId} {x : Operand} {b off i fo k : Nat} {xs : List α} {y : α} {s : List Value} (ho : o.op = .load t x) (hx : opv G x = some (.pointer (some ⟨b, off + i * z + fo, none⟩))) (ht : Agg P t k) (hl : ∀ x, (enc x).length = z)
    (h : SlAt S F b off z enc xs) (hi : xs[i]? = some y) (hs : SubL (enc y) fo k s) : QR P N G S F o (.agg s.toArray) := fun a w st => by
  obtain ⟨l, ty, fz, h1, h2⟩ := h.row hl hi st.sat
  have h3 := h2.trans hs
  unfold execOp; simp [ho, st.eval hx, Instr.loadAt, Instr.sureAddr, run_loadAgg ht h1 h3]
theorem QR.loadSlF1 {o : Oper} {t : TypeId} {x : Operand} {b off i fo : Nat} {xs : List α} {y : α} {v : Value} (ho : o.op = .load t x) (hx : opv G x = some (.pointer (some ⟨b, off + i * z + fo, none⟩))) (ht : Sca P t) (hl : ∀ x, (enc x).length = z)
    (h : SlAt S F b off z enc xs) (hi : xs[i]? = some y) (hs : SubL (enc y) fo 1 [v]) : QR P N G S F o v := fun a w st => by
  obtain ⟨l, ty, fz, h1, h2⟩ := h.row hl hi st.sat
  have h3 := h2.trans hs
  unfold execOp; simp [ho, st.eval hx, Instr.loadAt, Instr.sureAddr, run_loadSca ht h1 h3]

theorem J.addSl (e : TypeId) (z : Nat) (enc : α → List Value) (j : J N G (slA e z enc (.slice none 0 0) [] :: S) F Φ) : J N G S F Φ := j.conseq fun w s => by
  obtain ⟨a, b, c, d, k, h1, h2, h3⟩ := s
  exact ⟨a, b, c, d, k, ⟨PH.none, k, PH.none_disj k, (PH.none_union k).symm, .inl ⟨rfl, rfl, rfl⟩, h1⟩, h2, h3⟩
theorem slA_head {v : Value} {xs : List α} {h : PH} (hs : slA e z enc v xs h) : ∃ a c, v = .slice a xs.length c ∧ (0 < xs.length → ∃ b off, a = some ⟨b, off, none⟩) := by
  rcases hs with ⟨rfl, rfl, _⟩ | ⟨b, off, c, _, _, _, rfl, _⟩
  · exact ⟨none, 0, rfl, fun h => by simp at h⟩
  · exact ⟨_, c, rfl, fun _ => ⟨b, off, rfl⟩⟩
theorem Sat.slHead {v : Value} {xs : List α} {w : World} (h : slA e z enc v xs ∈ S) (s : Sat S F w) : ∃ a c, v = .slice a xs.length c ∧ (0 < xs.length → ∃ b off, a = some ⟨b, off, none⟩) := by
  obtain ⟨p, hp, _⟩ := s.memX h
  exact slA_head hp
theorem J.slHead {v : Value} {xs : List α} (h : slA e z enc v xs ∈ S) (j : ∀ a c, v = .slice a xs.length c → (0 < xs.length → ∃ b off, a = some ⟨b, off, none⟩) → J N G S F Φ) : J N G S F Φ := fun a w s => by
  obtain ⟨ad, c, h1, h2⟩ := s.sat.slHead h
  exact j ad c h1 h2 a w s
theorem J.slNil {v : Value} {xs : List α} (h : slA e z enc v xs ∈ S) (hx : xs = []) (j : ∀ a c, v = .slice a 0 c → J N G S F Φ) : J N G S F Φ := J.slHead h fun a c h1 _ => by
  subst hx; exact j a c h1

theorem RowsAt.one {b : Nat} {x : α} {ty : TypeId} (hl : ∀ x, (enc x).length = z) (h : blk b (enc x) ty ∈ S) : RowsAt S F (.slice (some ⟨b, 0, none⟩) 1 1) [x].length z ([x].flatMap enc) :=
  ⟨flatMap_len hl _, .inr ⟨b, 0, 1, rfl, fun w s => ⟨enc x, ty, (0, 0), s.mem h, by
    have e1 : [x].flatMap enc = enc x := by simp
    rw [e1]
    have := SubL.all (enc x)
    rw [hl] at this
    simpa using this⟩⟩⟩
/-- The rows of xs, in whatever block. -/
theorem RowsAt.sl {b off c : Nat} {xs : List α} (hl : ∀ x, (enc x).length = z) (h : SlAt S F b off z enc xs) : RowsAt S F (.slice (some ⟨b, off, none⟩) xs.length c) xs.length z (xs.flatMap enc) :=
  ⟨flatMap_len hl _, .inr ⟨b, off, c, rfl, h⟩⟩
theorem RowsAt.empty {v : Value} (h : v = .slice none 0 0) : RowsAt S F v ([] : List α).length z (([] : List α).flatMap enc) :=
  ⟨by simp, .inl ⟨h, rfl⟩⟩
/-- A part of them. -/
theorem SlAt.part {b off : Nat} {xs : List α} (hl : ∀ x, (enc x).length = z) (h : SlAt S F b off z enc xs) {i j : Nat} (hij : i ≤ j) (hj : j ≤ xs.length) : SlAt S F b (off + i * z) z enc ((xs.take j).drop i) := fun w s => by
  obtain ⟨l, ty, fz, h1, h2⟩ := h w s
  refine ⟨l, ty, fz, h1, h2.trans ?_⟩
  have e : xs = xs.take i ++ ((xs.take j).drop i ++ xs.drop j) := by
    have e1 : xs.take i = (xs.take j).take i := by rw [List.take_take, Nat.min_eq_left hij]
    rw [e1, ← List.append_assoc, List.take_append_drop, List.take_append_drop]
  refine ⟨(xs.take i).flatMap enc, (xs.drop j).flatMap enc, ?_, ?_, flatMap_len hl _⟩
  · conv => lhs; rw [e]
    simp [List.flatMap_append]
  · rw [flatMap_len hl, List.length_take, Nat.min_eq_left (Nat.le_trans hij hj)]
theorem EF.append1 {o : Oper} {t t1 : TypeId} {x y : Operand} (hE : ElemTy P e z) (hl : ∀ x, (enc x).length = z) (hc : ∀ x, ∀ v ∈ enc x, Value.cellB v = true) {ts : Array TypeId} (ho : o.op = .call ⟨.builtin .append, #[x, y], ts⟩) (ht : ts[0]? = some t) (ht1 : ts[1]? = some t1)
    (hu : P.underlying t = some (.slice e)) (hu1 : P.underlying t1 = some (.slice e)) {v : Value} {xs : List α} {s : α} {b : Nat} {ty : TypeId} (hx : opv G x = some v) (hy : opv G y = some (.slice (some ⟨b, 0, none⟩) 1 1)) (pk : Pick S (slA e z enc v xs) S1)
    (hb : blk b (enc s) ty ∈ S1) (hn : xs.length + 1 ≤ 4294967296) : EF P N G S F o fun v' S' => S' = slA e z enc v' (xs ++ [s]) :: S1 :=
  EF.append hE hl hc ho ht ht1 hu hu1 hx hy pk (RowsAt.one hl hb) hn
/-- A slice of one struct that is written out. -/
theorem EF.buildSlice1 {o : Oper} {t : TypeId} {parts : Array (Nat × Operand)} {l : List Value} {zero : Value} (ho : o.op = .buildSlice t 1 parts) (hu : P.underlying t = some (.slice e)) (hz : Sz P e z)
    (h0 : Zero P e zero) (hzl : zero.cells.size = z) (hzb : z ≤ 16777216) (hi : parts.toList.map (·.1) = [0]) (hv : opvs G (parts.toList.map (·.2)) = some [.agg l.toArray]) (hf : l.length = z) (hz0 : z ≠ 0) :
    EF P N G S F o fun u S' => ∃ b, u = .slice (some ⟨b, 0, none⟩) 1 1 ∧ S' = blk b l e :: S := by
  have := EF.buildSlice (N := N) (S := S) (F := F) ho hu hz h0 hzl (by omega) (by rw [hi]; rfl) hv rfl (by simp [Value.cells, hf]) hz0
  have e1 : ([Value.agg l.toArray].flatMap fun v => v.cells.toList) = l := by simp [Value.cells]
  rw [e1] at this
  exact this
/-- Of scalars. -/
theorem EF.buildSliceS {o : Oper} {t : TypeId} {n : Nat} {parts : Array (Nat × Operand)} {vs : List Value} {zero : Value} (ho : o.op = .buildSlice t n parts) (hu : P.underlying t = some (.slice e)) (hz : Sz P e 1)
    (h0 : Zero P e zero) (hzl : zero.cells.size = 1) (hn : n ≤ 16777216) (hi : parts.toList.map (·.1) = List.range n) (hv : opvs G (parts.toList.map (·.2)) = some vs) (hvl : vs.length = n) (hf : vs.all Value.cellB = true) :
    EF P N G S F o fun u S' => ∃ b, u = .slice (some ⟨b, 0, none⟩) n n ∧ S' = blk b vs e :: S := by
  have hone : ∀ v : Value, Value.cellB v = true → v.cells = #[v] := fun v h => by cases v <;> simp [Value.cellB] at h <;> rfl
  have hall : ∀ v ∈ vs, v.cells = #[v] := fun v hv' => hone v (List.all_eq_true.1 hf v hv')
  have := EF.buildSlice (N := N) (S := S) (F := F) ho hu hz h0 hzl (by omega) hi hv hvl (fun v hv' => by rw [hall v hv']; rfl) (by decide)
  have e1 : (vs.flatMap fun v => v.cells.toList) = vs := by
    clear hv hvl hf this
    induction vs with
    | nil => rfl
    | cons v vs ih => simp only [List.flatMap_cons, hall v List.mem_cons_self, ih fun u hu => hall u (List.mem_cons_of_mem _ hu)]; rfl
  rw [e1] at this
  exact this
end

section
variable {K α : Type}
theorem ptrs_get {E : List (K × (Nat × α))} {i : Nat} {p : K × Nat} (h : (ptrs E)[i]? = some p) : ∃ e, E[i]? = some e ∧ p = (e.1, e.2.1) := by
  unfold ptrs at h
  rw [List.getElem?_map] at h
  cases he : E[i]? with
  | none => rw [he] at h; cases h
  | some e => rw [he] at h; cases h; exact ⟨e, rfl, rfl⟩
theorem ptrs_erase (E : List (K × (Nat × α))) (i : Nat) : (ptrs E).eraseIdx i = ptrs (E.eraseIdx i) := (map_eraseIdx' _ _ _).symm
theorem ptrs_nil {E : List (K × (Nat × α))} (h : ptrs E = []) : E = [] := by unfold ptrs at h; simpa using h
theorem erase_perm {β : Type} {l : List β} {i : Nat} {x : β} (h : l[i]? = some x) : (x :: l.eraseIdx i).Perm l := by
  induction l generalizing i with
  | nil => simp at h
  | cons y l ih =>
    cases i with
    | zero => simp only [List.getElem?_cons_zero, Option.some.injEq] at h; subst h; exact List.Perm.refl _
    | succ i =>
      simp only [List.getElem?_cons_succ] at h
      simp only [List.eraseIdx_cons_succ]
      exact (List.Perm.swap _ _ _).trans (List.Perm.cons _ (ih h))
end
theorem BytesAt.bs {S : List HProp} {F : Fr} {b off n c : Nat} {l : List Value} {ty : TypeId} {fz : Nat × Nat} {x : Bs n} (h : F.h b = some (.cells l.toArray ty fz)) (hs : SubL l off n x.enc) : BytesAt S F (.slice (some ⟨b, off, none⟩) n c) x.l :=
  .inr ⟨b, off, c, l, by rw [x.h], .fr h, by rw [x.h]; exact hs⟩
section
variable {P : Program} {N : Nat} {G : Env} {S : List HProp} {F : Fr} {ops : Array Oper} {M : List Nat} {q r : Nat} {D : List Nat} {k : Act → World → Prop}
theorem Look.app {a b c : List HProp} [h : App a b c] {j : Nat} (l : Look P N ops G c F j) : Look P N ops G (a ++ b) F j := by rw [h.eq]; exact l
theorem One.skipD {i d : Nat} {o : Oper} (ho : ops[i]? = some o) (hq : q.testBit i = false) (hw : Want N G S F ops o false) (hd : o.dst = some d) (hn : d < N)
    (h : Dw P N ops M q r (i :: D) k (.cons d undef G) S F) : One P N ops M q r D k G S F i := by
  refine ⟨hq, fun a w s o' ho' => ?_⟩
  rw [ho] at ho'; cases ho'
  refine ⟨(fun hf => by rw [hw a w s] at hf; cases hf), fun _ => ?_⟩
  rw [hd]
  exact h _ _ (s.put hn undef s.sat)
theorem One.skipA {i : Nat} {o : Oper} (ho : ops[i]? = some o) (hq : q.testBit i = false) (hw : Want N G S F ops o false) (hd : o.dst = none)
    (h : Dw P N ops M q r (i :: D) k G S F) : One P N ops M q r D k G S F i := by
  refine ⟨hq, fun a w s o' ho' => ?_⟩
  rw [ho] at ho'; cases ho'
  refine ⟨(fun hf => by rw [hw a w s] at hf; cases hf), fun _ => ?_⟩
  rw [hd]
  exact h _ _ s
end
section
variable {P : Program} {N : Nat} {K : Posts} {G : Env} {S : List HProp} {F : Fr}
theorem ltN {d N : Nat} (h : Nat.ble (d + 1) N = true) : d < N := Nat.le_of_ble_eq_true h
theorem J.envJ {Φ : Act → World → Prop} {G' : Env} (j : J N G' S F Φ) (h : G.agree G') : J N G S F Φ := J.env h j
theorem Run.loop1 {X0 : Type} (I : X0 → Prop) (GI : X0 → Env) (SI : X0 → List HProp) (μ : X0 → Nat) {c : Code} (x0₀ : X0) (i0 : I x0₀) (h0 : ∀ Φ, J N (GI x0₀) (SI x0₀) F Φ → J N G S F Φ)
    (round : ∀ (x0 : X0), I x0 → ∀ k : Act → World → Prop, (∀ (x0' : X0), I x0' → μ x0' < μ x0 → J N (GI x0') (SI x0') F k) → Run P N c (K.setN k) (GI x0) (SI x0) F) : Run P N (.loop c) K G S F :=
  Run.loop (X := { p : X0 // I p }) (fun p => GI p.1) (fun p => SI p.1) (fun p => μ p.1) ⟨(x0₀), i0⟩ h0 fun ⟨(x0), hi⟩ k hk => round x0 hi k fun x0' hi' hl => hk ⟨(x0'), hi'⟩ hl
theorem Run.loop2 {X0 X1 : Type} (I : X0 → X1 → Prop) (GI : X0 → X1 → Env) (SI : X0 → X1 → List HProp) (μ : X0 → X1 → Nat) {c : Code} (x0₀ : X0) (x1₀ : X1) (i0 : I x0₀ x1₀) (h0 : ∀ Φ, J N (GI x0₀ x1₀) (SI x0₀ x1₀) F Φ → J N G S F Φ)
    (round : ∀ (x0 : X0) (x1 : X1), I x0 x1 → ∀ k : Act → World → Prop, (∀ (x0' : X0) (x1' : X1), I x0' x1' → μ x0' x1' < μ x0 x1 → J N (GI x0' x1') (SI x0' x1') F k) → Run P N c (K.setN k) (GI x0 x1) (SI x0 x1) F) : Run P N (.loop c) K G S F :=
  Run.loop (X := { p : X0 × X1 // I p.1 p.2 }) (fun p => GI p.1.1 p.1.2) (fun p => SI p.1.1 p.1.2) (fun p => μ p.1.1 p.1.2) ⟨(x0₀, x1₀), i0⟩ h0 fun ⟨(x0, x1), hi⟩ k hk => round x0 x1 hi k fun x0' x1' hi' hl => hk ⟨(x0', x1'), hi'⟩ hl
theorem Run.loop3 {X0 X1 X2 : Type} (I : X0 → X1 → X2 → Prop) (GI : X0 → X1 → X2 → Env) (SI : X0 → X1 → X2 → List HProp) (μ : X0 → X1 → X2 → Nat) {c : Code} (x0₀ : X0) (x1₀ : X1) (x2₀ : X2) (i0 : I x0₀ x1₀ x2₀) (h0 : ∀ Φ, J N (GI x0₀ x1₀ x2₀) (SI x0₀ x1₀ x2₀) F Φ → J N G S F Φ)
    (round : ∀ (x0 : X0) (x1 : X1) (x2 : X2), I x0 x1 x2 → ∀ k : Act → World → Prop, (∀ (x0' : X0) (x1' : X1) (x2' : X2), I x0' x1' x2' → μ x0' x1' x2' < μ x0 x1 x2 → J N (GI x0' x1' x2') (SI x0' x1' x2') F k) → Run P N c (K.setN k) (GI x0 x1 x2) (SI x0 x1 x2) F) : Run P N (.loop c) K G S F :=
  Run.loop (X := { p : X0 × X1 × X2 // I p.1 p.2.1 p.2.2 }) (fun p => GI p.1.1 p.1.2.1 p.1.2.2) (fun p => SI p.1.1 p.1.2.1 p.1.2.2) (fun p => μ p.1.1 p.1.2.1 p.1.2.2) ⟨(x0₀, x1₀, x2₀), i0⟩ h0 fun ⟨(x0, x1, x2), hi⟩ k hk => round x0 x1 x2 hi k fun x0' x1' x2' hi' hl => hk ⟨(x0', x1', x2'), hi'⟩ hl
theorem Run.loop4 {X0 X1 X2 X3 : Type} (I : X0 → X1 → X2 → X3 → Prop) (GI : X0 → X1 → X2 → X3 → Env) (SI : X0 → X1 → X2 → X3 → List HProp) (μ : X0 → X1 → X2 → X3 → Nat) {c : Code} (x0₀ : X0) (x1₀ : X1) (x2₀ : X2) (x3₀ : X3) (i0 : I x0₀ x1₀ x2₀ x3₀) (h0 : ∀ Φ, J N (GI x0₀ x1₀ x2₀ x3₀) (SI x0₀ x1₀ x2₀ x3₀) F Φ → J N G S F Φ)
    (round : ∀ (x0 : X0) (x1 : X1) (x2 : X2) (x3 : X3), I x0 x1 x2 x3 → ∀ k : Act → World → Prop, (∀ (x0' : X0) (x1' : X1) (x2' : X2) (x3' : X3), I x0' x1' x2' x3' → μ x0' x1' x2' x3' < μ x0 x1 x2 x3 → J N (GI x0' x1' x2' x3') (SI x0' x1' x2' x3') F k) → Run P N c (K.setN k) (GI x0 x1 x2 x3) (SI x0 x1 x2 x3) F) : Run P N (.loop c) K G S F :=
  Run.loop (X := { p : X0 × X1 × X2 × X3 // I p.1 p.2.1 p.2.2.1 p.2.2.2 }) (fun p => GI p.1.1 p.1.2.1 p.1.2.2.1 p.1.2.2.2) (fun p => SI p.1.1 p.1.2.1 p.1.2.2.1 p.1.2.2.2) (fun p => μ p.1.1 p.1.2.1 p.1.2.2.1 p.1.2.2.2) ⟨(x0₀, x1₀, x2₀, x3₀), i0⟩ h0 fun ⟨(x0, x1, x2, x3), hi⟩ k hk => round x0 x1 x2 x3 hi k fun x0' x1' x2' x3' hi' hl => hk ⟨(x0', x1', x2', x3'), hi'⟩ hl
theorem Run.loop5 {X0 X1 X2 X3 X4 : Type} (I : X0 → X1 → X2 → X3 → X4 → Prop) (GI : X0 → X1 → X2 → X3 → X4 → Env) (SI : X0 → X1 → X2 → X3 → X4 → List HProp) (μ : X0 → X1 → X2 → X3 → X4 → Nat) {c : Code} (x0₀ : X0) (x1₀ : X1) (x2₀ : X2) (x3₀ : X3) (x4₀ : X4) (i0 : I x0₀ x1₀ x2₀ x3₀ x4₀) (h0 : ∀ Φ, J N (GI x0₀ x1₀ x2₀ x3₀ x4₀) (SI x0₀ x1₀ x2₀ x3₀ x4₀) F Φ → J N G S F Φ)
    (round : ∀ (x0 : X0) (x1 : X1) (x2 : X2) (x3 : X3) (x4 : X4), I x0 x1 x2 x3 x4 → ∀ k : Act → World → Prop, (∀ (x0' : X0) (x1' : X1) (x2' : X2) (x3' : X3) (x4' : X4), I x0' x1' x2' x3' x4' → μ x0' x1' x2' x3' x4' < μ x0 x1 x2 x3 x4 → J N (GI x0' x1' x2' x3' x4') (SI x0' x1' x2' x3' x4') F k) → Run P N c (K.setN k) (GI x0 x1 x2 x3 x4) (SI x0 x1 x2 x3 x4) F) : Run P N (.loop c) K G S F :=
  Run.loop (X := { p : X0 × X1 × X2 × X3 × X4 // I p.1 p.2.1 p.2.2.1 p.2.2.2.1 p.2.2.2.2 }) (fun p => GI p.1.1 p.1.2.1 p.1.2.2.1 p.1.2.2.2.1 p.1.2.2.2.2) (fun p => SI p.1.1 p.1.2.1 p.1.2.2.1 p.1.2.2.2.1 p.1.2.2.2.2) (fun p => μ p.1.1 p.1.2.1 p.1.2.2.1 p.1.2.2.2.1 p.1.2.2.2.2) ⟨(x0₀, x1₀, x2₀, x3₀, x4₀), i0⟩ h0 fun ⟨(x0, x1, x2, x3, x4), hi⟩ k hk => round x0 x1 x2 x3 x4 hi k fun x0' x1' x2' x3' x4' hi' hl => hk ⟨(x0', x1', x2', x3', x4'), hi'⟩ hl
theorem Run.loop6 {X0 X1 X2 X3 X4 X5 : Type} (I : X0 → X1 → X2 → X3 → X4 → X5 → Prop) (GI : X0 → X1 → X2 → X3 → X4 → X5 → Env) (SI : X0 → X1 → X2 → X3 → X4 → X5 → List HProp) (μ : X0 → X1 → X2 → X3 → X4 → X5 → Nat) {c : Code} (x0₀ : X0) (x1₀ : X1) (x2₀ : X2) (x3₀ : X3) (x4₀ : X4) (x5₀ : X5) (i0 : I x0₀ x1₀ x2₀ x3₀ x4₀ x5₀) (h0 : ∀ Φ, J N (GI x0₀ x1₀ x2₀ x3₀ x4₀ x5₀) (SI x0₀ x1₀ x2₀ x3₀ x4₀ x5₀) F Φ → J N G S F Φ)
    (round : ∀ (x0 : X0) (x1 : X1) (x2 : X2) (x3 : X3) (x4 : X4) (x5 : X5), I x0 x1 x2 x3 x4 x5 → ∀ k : Act → World → Prop, (∀ (x0' : X0) (x1' : X1) (x2' : X2) (x3' : X3) (x4' : X4) (x5' : X5), I x0' x1' x2' x3' x4' x5' → μ x0' x1' x2' x3' x4' x5' < μ x0 x1 x2 x3 x4 x5 → J N (GI x0' x1' x2' x3' x4' x5') (SI x0' x1' x2' x3' x4' x5') F k) → Run P N c (K.setN k) (GI x0 x1 x2 x3 x4 x5) (SI x0 x1 x2 x3 x4 x5) F) : Run P N (.loop c) K G S F :=
  Run.loop (X := { p : X0 × X1 × X2 × X3 × X4 × X5 // I p.1 p.2.1 p.2.2.1 p.2.2.2.1 p.2.2.2.2.1 p.2.2.2.2.2 }) (fun p => GI p.1.1 p.1.2.1 p.1.2.2.1 p.1.2.2.2.1 p.1.2.2.2.2.1 p.1.2.2.2.2.2) (fun p => SI p.1.1 p.1.2.1 p.1.2.2.1 p.1.2.2.2.1 p.1.2.2.2.2.1 p.1.2.2.2.2.2) (fun p => μ p.1.1 p.1.2.1 p.1.2.2.1 p.1.2.2.2.1 p.1.2.2.2.2.1 p.1.2.2.2.2.2) ⟨(x0₀, x1₀, x2₀, x3₀, x4₀, x5₀), i0⟩ h0 fun ⟨(x0, x1, x2, x3, x4, x5), hi⟩ k hk => round x0 x1 x2 x3 x4 x5 hi k fun x0' x1' x2' x3' x4' x5' hi' hl => hk ⟨(x0', x1', x2', x3', x4', x5'), hi'⟩ hl
end
theorem EF.storeA {P : Program} {N : Nat} {G : Env} {S : List HProp} {F : Fr} {o : Oper} {t : TypeId} {x y : Operand} {b off n : Nat} {s l l' : List Value} {ty : TypeId} {C : List Value → List HProp} (ho : o.op = .store t x y) (hx : opv G x = some (.pointer (some ⟨b, off, none⟩))) (hy : opv G y = some (.agg s.toArray))
    (hz : Sz P t n) [u : UpdBlk b S l ty C] (hs : SetL l off n s l') (hv : ∀ u ∈ s, Value.cellB u = true) : EF P N G S F o fun _ S2 => S2 = C l' := EF.store ho hx hy hz hs hv
end Slb
