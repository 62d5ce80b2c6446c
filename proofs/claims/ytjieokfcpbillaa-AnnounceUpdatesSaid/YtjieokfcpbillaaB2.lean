/- Base 2: a region that draws its order, taken to one order: quiet operations as soon as they may be, and looked at again behind each effect. -/
import Derived.Test.YtjieokfcpbillaaB1
namespace Slb
open Go

section congr
theorem map_eval_congr {ρ ρ' : Operand → Value} {xs : Array Operand} (h : ∀ x ∈ xs.toList, ρ x = ρ' x) : xs.map ρ = xs.map ρ' :=
  Array.map_congr_left fun x hx => h x (Array.mem_toList_iff.2 hx)
theorem map_parts_congr {ρ ρ' : Operand → Value} {xs : Array (Nat × Operand)} (h : ∀ x ∈ ((xs.toList.map (·.2)).toArray).toList, ρ x = ρ' x) :
    (xs.map fun (i, x) => (i, ρ x)) = xs.map fun (i, x) => (i, ρ' x) :=
  Array.map_congr_left fun x hx => by
    have := h x.2 (by simp only [List.mem_map]; exact ⟨x, Array.mem_toList_iff.2 hx, rfl⟩)
    simp [this]
theorem opt_map_congr {ρ ρ' : Operand → Value} {x : Option Operand} (h : ∀ y ∈ x.toArray.toList, ρ y = ρ' y) : x.map ρ = x.map ρ' := by
  cases x with
  | none => rfl
  | some y => simp [h y (by simp)]
end congr

/-- What an operation that is not a region's end does: its value and the world go on; no way out but this. -/
def EStep (P : Program) (o : Oper) (a : Act) (w : World) (next : Value → World → Prop) : Prop :=
  match (execOp a.eval o).run P w with
  | .ok (.value v) w' => next v w'
  | .ok .skip w' => next undef w'
  | .ok (.enter f args) w' => Calls P f args w' fun
      | .returned v, w'' => next v w''
      | _, _ => False
  | .ok (.row row args) w' => Rows P row args w' next
  | _ => False
theorem EStep.wp {P : Program} {o : Oper} {a : Act} {w : World} {next : Value → World → Prop} {K : Act → World → Prop} {Q : Exit → Act → World → Prop}
    (h : EStep P o a w next) (hk : ∀ v w', next v w' → K (a.put o.dst v) w') : o.wp P a w K Q := by
  unfold EStep at h
  unfold Oper.wp Oper.upon
  split at h
  · rename_i hr; rw [hr]; exact hk _ _ h
  · rename_i hr; rw [hr]; exact hk _ _ h
  · rename_i hr; rw [hr]
    refine Calls.mono h fun e w' r => ?_
    cases e with
    | returned v => exact hk _ _ r
    | panicked c => exact r.elim
    | outgrown => exact r.elim
  · rename_i hr; rw [hr]
    exact Rows.mono h fun v w' r => hk _ _ r
  · exact h.elim
theorem EStep.mono {P : Program} {o : Oper} {a : Act} {w : World} {next next' : Value → World → Prop}
    (h : EStep P o a w next) (hk : ∀ v w', next v w' → next' v w') : EStep P o a w next' := by
  unfold EStep at h ⊢
  split at h
  · exact hk _ _ h
  · exact hk _ _ h
  · refine Calls.mono h fun e w' r => ?_
    cases e with
    | returned v => exact hk _ _ r
    | panicked c => exact r.elim
    | outgrown => exact r.elim
  · exact Rows.mono h fun v w' r => hk _ _ r
  · exact h.elim

/-- Two frames that agree on what an operation names do the same with it. -/
theorem execOp_congr {ρ ρ' : Operand → Value} {o : Oper} (h : ∀ x ∈ o.op.operands.toList, ρ x = ρ' x) : execOp ρ o = execOp ρ' o := by
  unfold execOp
  cases ho : o.op with
  | call c =>
    rw [ho] at h
    have ha : c.args.map ρ = c.args.map ρ' := map_eval_congr fun x hx => h x (by simp [Op.operands, Call.operands, hx])
    have hc : resolve ρ c o.type = resolve ρ' c o.type := by
      unfold resolve
      simp only [ha]
      cases hcl : c.callee with
      | value f => simp only; rw [h f (by simp [Op.operands, Call.operands, hcl])]
      | invoke r m => simp only; rw [h r (by simp [Op.operands, Call.operands, hcl])]
      | builtin b => rfl
    simp only [hc]
  | go c =>
    rw [ho] at h
    have ha : c.args.map ρ = c.args.map ρ' := map_eval_congr fun x hx => h x (by simp [Op.operands, Call.operands, hx])
    have hc : resolve ρ c o.type = resolve ρ' c o.type := by
      unfold resolve
      simp only [ha]
      cases hcl : c.callee with
      | value f => simp only; rw [h f (by simp [Op.operands, Call.operands, hcl])]
      | invoke r m => simp only; rw [h r (by simp [Op.operands, Call.operands, hcl])]
      | builtin b => rfl
    simp only [hc]
  | defer c =>
    rw [ho] at h
    have ha : c.args.map ρ = c.args.map ρ' := map_eval_congr fun x hx => h x (by simp [Op.operands, Call.operands, hx])
    have hc : resolve ρ c o.type = resolve ρ' c o.type := by
      unfold resolve
      simp only [ha]
      cases hcl : c.callee with
      | value f => simp only; rw [h f (by simp [Op.operands, Call.operands, hcl])]
      | invoke r m => simp only; rw [h r (by simp [Op.operands, Call.operands, hcl])]
      | builtin b => rfl
    simp only [hc]
  | select cs b =>
    rw [ho] at h
    have : (fun s : SelectCase => (do pure { chan := ρ s.chan, send := s.send.map ρ, zero := ← zeroValue s.elem : CommCase } : Sem CommCase)) = (fun s : SelectCase => (do pure { chan := ρ s.chan, send := s.send.map ρ, zero := ← zeroValue s.elem : CommCase } : Sem CommCase)) := rfl
    have hcs : ∀ s ∈ cs.toList, (do pure { chan := ρ s.chan, send := s.send.map ρ, zero := ← zeroValue s.elem : CommCase } : Sem CommCase) = (do pure { chan := ρ' s.chan, send := s.send.map ρ', zero := ← zeroValue s.elem : CommCase } : Sem CommCase) := by
      intro s hs
      have h1 : ρ s.chan = ρ' s.chan := h _ (by simp only [Op.operands]; rw [Array.mem_toList_iff, Array.mem_flatMap]; exact ⟨s, Array.mem_toList_iff.1 hs, by simp⟩)
      have h2 : s.send.map ρ = s.send.map ρ' := opt_map_congr fun y hy => h _ (by simp only [Op.operands]; rw [Array.mem_toList_iff, Array.mem_flatMap]; exact ⟨s, Array.mem_toList_iff.1 hs, by rw [Array.mem_append]; exact .inr (Array.mem_toList_iff.1 hy)⟩)
      rw [h1, h2]
    have : cs.mapM (fun s : SelectCase => (do pure { chan := ρ s.chan, send := s.send.map ρ, zero := ← zeroValue s.elem : CommCase } : Sem CommCase)) = cs.mapM (fun s : SelectCase => (do pure { chan := ρ' s.chan, send := s.send.map ρ', zero := ← zeroValue s.elem : CommCase } : Sem CommCase)) := by
      rw [Array.mapM_eq_mapM_toList, Array.mapM_eq_mapM_toList]
      congr 1
      generalize cs.toList = l at hcs
      induction l with
      | nil => rfl
      | cons s l ih =>
        rw [List.mapM_cons, List.mapM_cons, hcs s (by simp), ih fun s' hs' => hcs s' (by simp [hs'])]
    simp only [this]
  | build t ps => rw [ho] at h; simp only [map_parts_congr (ρ := ρ) (ρ' := ρ') (xs := ps) h]
  | buildSlice t n ps => rw [ho] at h; simp only [map_parts_congr (ρ := ρ) (ρ' := ρ') (xs := ps) h]
  | makeFunc fn x y =>
    rw [ho] at h
    simp only [map_eval_congr (ρ := ρ) (ρ' := ρ') (xs := x) (fun z hz => h z (by simp [Op.operands, hz])), map_eval_congr (ρ := ρ) (ρ' := ρ') (xs := y) (fun z hz => h z (by simp [Op.operands, hz]))]
  | makeMap t r => rw [ho] at h; simp only [opt_map_congr (ρ := ρ) (ρ' := ρ') (x := r) h]
  | slice t x l hi m =>
    rw [ho] at h
    simp only [h x (by simp [Op.operands]), opt_map_congr (ρ := ρ) (ρ' := ρ') (x := l) (fun z hz => h z (by simp only [Op.operands]; simp at hz ⊢; simp [hz])),
      opt_map_congr (ρ := ρ) (ρ' := ρ') (x := hi) (fun z hz => h z (by simp only [Op.operands]; simp at hz ⊢; simp [hz])),
      opt_map_congr (ρ := ρ) (ρ' := ρ') (x := m) (fun z hz => h z (by simp only [Op.operands]; simp at hz ⊢; simp [hz]))]
  | send a b => rw [ho] at h; simp only [h a (by simp [Op.operands]), h b (by simp [Op.operands])]
  | recv t a ok => rw [ho] at h; simp only [h a (by simp [Op.operands])]
  | alloc _ | ready _ | waits _ => rfl
  | move x | assign x | box _ x | load _ x | nilCheck x | unOp _ _ x | convert _ _ x | sliceToArrayPointer _ x | makeInterface _ x | fieldAddr _ x _ | field _ x _ | range _ x | next x _ | entry x | typeAssert x _ _ _ | extract x _ | panic x | makeChan _ x =>
    rw [ho] at h
    simp only [h x (by simp [Op.operands])]
  | pick x y z => rw [ho] at h; simp only [h x (by simp [Op.operands]), h y (by simp [Op.operands]), h z (by simp [Op.operands])]
  | store _ x y | binOp _ _ x y _ | makeSlice _ x y | indexAddr _ x y | index _ x y | lookup _ x y _ | mapEntry _ x y =>
    rw [ho] at h
    simp only [h x (by simp [Op.operands]), h y (by simp [Op.operands])]
  | mapUpdate _ x y z | entryStore _ x y z | insert _ x y z => rw [ho] at h; simp only [h x (by simp [Op.operands]), h y (by simp [Op.operands]), h z (by simp [Op.operands])]


/-- Does an operation name slot d? -/
def names (o : Oper) (d : Tmp) : Bool := o.op.operands.toList.any fun | .tmp t => Nat.beq t d | _ => false
theorem names_of {o : Oper} {d : Tmp} (h : Operand.tmp d ∈ o.op.operands.toList) : names o d = true := by
  unfold names
  rw [List.any_eq_true]
  exact ⟨_, h, by simp⟩
def bef (M : List Nat) (i j : Nat) : Bool := (M.getD j 0).testBit i
/-- The edges that bind where the two orders are mixed. -/
def aft (o : Oper) : List Edge := o.after.toList.filter (Region.binds .any)
/-- The masks: which operations stand ahead of each (a guess that 'regOk' looks at). -/
def masks (ops : Array Oper) : List Nat :=
  ops.toList.foldl (fun acc o => acc ++ [(aft o).foldl (fun m e => m ||| (2 ^ e.on ||| acc.getD e.on 0)) 0]) []
/-- What is asked of a region once: q: the quiet operations (a mask). -/
def regOk0 (ops : Array Oper) (q : Nat) (M : List Nat) : Bool :=
  (List.range ops.size).all fun j => match ops[j]? with
    | none => false
    | some o =>
      ((aft o).all fun e => decide (e.on < j)) &&
      ((List.range ops.size).all fun i => !bef M i j || (aft o).any fun e => Nat.beq e.on i || bef M i e.on) &&
      (match o.guard with | none => true | some (g, _) => q.testBit g && (aft o).any fun e => Nat.beq e.on g) &&
      (!q.testBit j || match o.dst with
        | none => false
        | some d => (List.range ops.size).all fun k => match ops[k]? with
          | none => false
          | some p => (Nat.beq k j || !(p.dst == some d)) && (!names p d || bef M j k) &&
            (q.testBit k || match p.dst with | none => true | some t => !names o t || bef M k j || bef M j k))

def regOk (ops : Array Oper) (q : Nat) (M : List Nat) : Bool := !Region.departs ops && regOk0 ops q M
structure RegOk (ops : Array Oper) (q : Nat) (M : List Nat) : Prop where
  back : ∀ (j : Nat) (o : Oper), ops[j]? = some o → ∀ e ∈ aft o, e.on < j
  ahead : ∀ (i j : Nat) (o : Oper), ops[j]? = some o → i < ops.size → bef M i j = true → ∃ e ∈ aft o, e.on = i ∨ bef M i e.on = true
  guard : ∀ (j : Nat) (o : Oper) (g : Nat) (b : Bool), ops[j]? = some o → o.guard = some (g, b) → q.testBit g = true ∧ ∃ e ∈ aft o, e.on = g
  dst : ∀ (j : Nat) (o : Oper), ops[j]? = some o → q.testBit j = true → ∃ d, o.dst = some d ∧ ∀ (k : Nat) (p : Oper), ops[k]? = some p →
    (k ≠ j → p.dst ≠ some d) ∧ (names p d = true → bef M j k = true) ∧
    (q.testBit k = false → ∀ t, p.dst = some t → names o t = true → bef M k j = true ∨ bef M j k = true)

theorem lt_of_get {α : Type} {xs : Array α} {i : Nat} {x : α} (h : xs[i]? = some x) : i < xs.size := (Array.getElem?_eq_some_iff.1 h).1

theorem regOk_of {ops : Array Oper} {q : Nat} {M : List Nat} (h : regOk0 ops q M = true) : RegOk ops q M := by
  unfold regOk0 at h
  rw [List.all_eq_true] at h
  have h1 := h
  have key : ∀ j o, ops[j]? = some o → _ := fun j o ho => by
    have := h1 j (List.mem_range.2 (lt_of_get ho))
    rw [ho] at this
    exact this
  simp only [Bool.and_eq_true, List.all_eq_true] at key
  refine ⟨fun j o ho e he => ?_, fun i j o ho hi hb => ?_, fun j o g b ho hg => ?_, fun j o ho hq => ?_⟩
  · have := (key j o ho).1.1.1 e he
    simpa using this
  · have := (key j o ho).1.1.2 i (List.mem_range.2 hi)
    rw [hb] at this
    simp only [Bool.not_true, Bool.false_or, List.any_eq_true, Bool.or_eq_true] at this
    obtain ⟨e, he, h2⟩ := this
    exact ⟨e, he, h2.imp Nat.eq_of_beq_eq_true id⟩
  · have := (key j o ho).1.2
    rw [hg] at this
    simp only [Bool.and_eq_true, List.any_eq_true] at this
    obtain ⟨h2, e, he, h3⟩ := this
    exact ⟨h2, e, he, Nat.eq_of_beq_eq_true h3⟩
  · have := (key j o ho).2
    rw [hq] at this
    simp only [Bool.not_true, Bool.false_or] at this
    split at this
    · cases this
    · rename_i d hd
      refine ⟨d, hd, fun k p hp => ?_⟩
      rw [List.all_eq_true] at this
      have := this k (List.mem_range.2 (lt_of_get hp))
      rw [hp] at this
      simp only [Bool.and_eq_true] at this
      obtain ⟨⟨a1, a2⟩, a3⟩ := this
      refine ⟨fun hk hpd => ?_, fun hn => ?_, fun hqk t ht hn => ?_⟩
      · rw [hpd] at a1
        simp at a1
        exact hk a1
      · rw [hn] at a2; simpa using a2
      · rw [hqk, ht] at a3
        simpa [hn] using a3

/-- An operation whose guard says no. -/
def wants (ops : Array Oper) (o : Oper) (a : Act) : Bool := Region.wanted o (yielded ops a.tmps)

/-- Behind effect i: what was read, and does not stand ahead of i, still reads so. -/
def Again (P : Program) (ops : Array Oper) (M : List Nat) (q r : Nat) (D : List Nat) (i : Nat) (a : Act) (w : World) : Prop :=
  ∀ j ∈ D, q.testBit j = true → r.testBit j = true → bef M j i = false → ∀ o, ops[j]? = some o → wants ops o a = true →
    ∃ d v, o.dst = some d ∧ a.tmps[d]? = some v ∧ (execOp a.eval o).run P w = .ok (.value v) w

/-- All of an operation's edges lead to what is done. -/
def ready (o : Oper) (D : List Nat) : Prop := ∀ e ∈ aft o, e.on ∈ D

structure Clos (P : Program) (ops : Array Oper) (M : List Nat) (q r : Nat) (Q : Act → World → Prop) (X : List Nat → Act → World → Prop) : Prop where
  done : ∀ D a w, (∀ i, i < ops.size → i ∈ D) → Q a w → X D a w
  quiet : ∀ D a w i o d v, ops[i]? = some o → i ∉ D → q.testBit i = true → ready o D → wants ops o a = true → o.dst = some d → d < a.tmps.size →
    ((r.testBit i = false ∧ ∀ w', (execOp a.eval o).run P w' = .ok (.value v) w') ∨ (r.testBit i = true ∧ (execOp a.eval o).run P w = .ok (.value v) w)) →
    X (i :: D) (a.put (some d) v) w → X D a w
  skip : ∀ D a w i o d, ops[i]? = some o → i ∉ D → q.testBit i = true → ready o D → wants ops o a = false → o.dst = some d → d < a.tmps.size →
    X (i :: D) (a.put (some d) undef) w → X D a w
  effs : ∀ D a w, (∃ i, i < ops.size ∧ i ∉ D) →
    (∀ i o, ops[i]? = some o → i ∉ D → ready o D → q.testBit i = false ∧
      (wants ops o a = true → EStep P o a w fun v w' => Again P ops M q r D i (a.put o.dst v) w' ∧ X (i :: D) (a.put o.dst v) w') ∧
      (wants ops o a = false → X (i :: D) (a.put o.dst undef) w)) → X D a w
/-- A region's walk: the least such. -/
def RW (P : Program) (ops : Array Oper) (M : List Nat) (q r : Nat) (Q : Act → World → Prop) (D : List Nat) (a : Act) (w : World) : Prop :=
  ∀ X, Clos P ops M q r Q X → X D a w
theorem RW.clos (P : Program) (ops : Array Oper) (M : List Nat) (q r : Nat) (Q : Act → World → Prop) : Clos P ops M q r Q (RW P ops M q r Q) where
  done D a w h hq := fun X hX => hX.done D a w h hq
  quiet D a w i o d v h1 h2 h3 h4 h5 h6 h7 h8 h9 := fun X hX => hX.quiet D a w i o d v h1 h2 h3 h4 h5 h6 h7 h8 (h9 X hX)
  skip D a w i o d h1 h2 h3 h4 h5 h6 h7 h9 := fun X hX => hX.skip D a w i o d h1 h2 h3 h4 h5 h6 h7 (h9 X hX)
  effs D a w h0 h := fun X hX => hX.effs D a w h0 fun i o h1 h2 h3 => by
    obtain ⟨a1, a2, a3⟩ := h i o h1 h2 h3
    have a2' := fun hw => (a2 hw).mono fun v w' (x : _ ∧ RW P ops M q r Q (i :: D) (a.put o.dst v) w') => (⟨x.1, x.2 X hX⟩ : _ ∧ X (i :: D) (a.put o.dst v) w')
    exact ⟨a1, a2', fun hw => a3 hw X hX⟩

def Lst (n : Nat) (L : Array Bool) (i : Nat) : Prop := i < n ∧ L[i]? = some true

structure Rel (P : Program) (ops : Array Oper) (M : List Nat) (q r : Nat) (D : List Nat) (L : Array Bool) (aA aV : Act) (w : World) : Prop where
  dfr : aA.defers = aV.defers
  sz : aA.tmps.size = aV.tmps.size
  lsz : L.size = ops.size
  sub : ∀ i, Lst ops.size L i → i ∈ D
  clD : ∀ i ∈ D, ∀ o, ops[i]? = some o → ready o D
  clS : ∀ i, Lst ops.size L i → ∀ o, ops[i]? = some o → ∀ e ∈ aft o, Lst ops.size L e.on
  slot : ∀ t, (∀ j ∈ D, ¬ Lst ops.size L j → ∀ o, ops[j]? = some o → o.dst ≠ some t) → aA.tmps[t]? = aV.tmps[t]?
  pend : ∀ j ∈ D, ¬ Lst ops.size L j → ∃ o d v, ops[j]? = some o ∧ q.testBit j = true ∧ o.dst = some d ∧ aV.tmps[d]? = some v ∧
    (wants ops o aV = true → (r.testBit j = false ∧ ∀ w', (execOp aV.eval o).run P w' = .ok (.value v) w') ∨ (r.testBit j = true ∧ (execOp aV.eval o).run P w = .ok (.value v) w)) ∧
    (wants ops o aV = false → v = undef)

section
variable {P : Program} {ops : Array Oper} {M : List Nat} {q r : Nat}

/-- What stands ahead of an operation whose edges lead into a closed set lies in it. -/
theorem ahead_in (ok : RegOk ops q M) (C : Nat → Prop) (hC : ∀ i, C i → ∀ o, ops[i]? = some o → ∀ e ∈ aft o, C e.on) (j : Nat) :
    ∀ o, ops[j]? = some o → (∀ e ∈ aft o, C e.on) → ∀ i, i < ops.size → bef M i j = true → C i := by
  induction j using Nat.strongRecOn with
  | _ j ih =>
    intro o ho hd i hi hb
    obtain ⟨e, he, h | h⟩ := ok.ahead i j o ho hi hb
    · rw [← h]; exact hd e he
    · have hlt := ok.back j o ho e he
      obtain ⟨p, hp⟩ : ∃ p, ops[e.on]? = some p := ⟨_, Array.getElem?_eq_getElem (Nat.lt_trans hlt (lt_of_get ho))⟩
      exact ih e.on hlt p hp (hC e.on (hd e he) p hp) i hi h

theorem yielded_eq {a a' : Act} {g : Nat} {p : Oper} (hp : ops[g]? = some p) {d : Nat} (hd : p.dst = some d) (h : a.tmps[d]? = a'.tmps[d]?) :
    yielded ops a.tmps g = yielded ops a'.tmps g := by
  unfold yielded
  simp [hp, hd, h]
theorem wants_eq (ok : RegOk ops q M) {a a' : Act} {j : Nat} {o : Oper} (ho : ops[j]? = some o)
    (h : ∀ g b p d, o.guard = some (g, b) → ops[g]? = some p → p.dst = some d → a.tmps[d]? = a'.tmps[d]?) : wants ops o a = wants ops o a' := by
  unfold wants Region.wanted
  cases hg : o.guard with
  | none => rfl
  | some gb =>
    obtain ⟨g, b⟩ := gb
    obtain ⟨hq, e, he, hge⟩ := ok.guard j o g b ho hg
    have hlt := ok.back j o ho e he
    obtain ⟨p, hp⟩ : ∃ p, ops[g]? = some p := ⟨_, Array.getElem?_eq_getElem (by rw [← hge]; exact Nat.lt_trans hlt (lt_of_get ho))⟩
    obtain ⟨d, hd, _⟩ := ok.dst g p hp hq
    simp only [yielded_eq hp hd (h g b p d hg hp hd)]

theorem eval_congr {a a' : Act} {o : Oper} (h : ∀ t, names o t = true → a.tmps[t]? = a'.tmps[t]?) : execOp a.eval o = execOp a'.eval o := by
  refine execOp_congr fun x hx => ?_
  cases x with
  | tmp t => simp [Act.eval, h t (names_of hx)]
  | const c => rfl
  | global g => rfl
  | func f => rfl

theorem put_ne {a : Act} {d t : Nat} {v : Value} (h : d ≠ t) : (a.put (some d) v).tmps[t]? = a.tmps[t]? := by
  simp [Act.put, h]
theorem put_ne' {a : Act} {o : Option Nat} {t : Nat} {v : Value} (h : o ≠ some t) : (a.put o v).tmps[t]? = a.tmps[t]? := by
  cases o with
  | none => rfl
  | some d => exact put_ne fun e => h (by rw [e])
theorem put_self {a : Act} {d : Nat} {v : Value} (h : d < a.tmps.size) : (a.put (some d) v).tmps[d]? = some v := by
  simp [Act.put, h]
theorem put_size {a : Act} {o : Option Nat} {v : Value} : (a.put o v).tmps.size = a.tmps.size := by cases o <;> simp [Act.put]
theorem put_defers {a : Act} {o : Option Nat} {v : Value} : (a.put o v).defers = a.defers := by cases o <;> rfl

/-- In the true frame an operation that may come next sees what it sees in the other. -/
theorem Rel.same (ok : RegOk ops q M) {D : List Nat} {L : Array Bool} {aA aV : Act} {w : World} (R : Rel P ops M q r D L aA aV w)
    {i : Nat} {o : Oper} (ho : ops[i]? = some o) (hr : ∀ e ∈ aft o, Lst ops.size L e.on) : execOp aA.eval o = execOp aV.eval o ∧ wants ops o aA = wants ops o aV := by
  constructor
  · refine eval_congr fun t ht => R.slot t fun j hj hjl p hp hd => hjl ?_
    obtain ⟨p', d, v, hp', hqj, hd', _⟩ := R.pend j hj hjl
    rw [hp] at hp'; cases hp'
    obtain ⟨d2, hd2, h⟩ := ok.dst j p hp hqj
    rw [hd] at hd2; cases hd2
    exact ahead_in ok _ R.clS i o ho hr j (lt_of_get hp) ((h i o ho).2.1 ht)
  · refine wants_eq ok ho fun g b p d hg hp hd => R.slot d fun j hj hjl p' hp' hd' => ?_
    obtain ⟨hqg, e, he, hge⟩ := ok.guard i o g b ho hg
    obtain ⟨d2, hd2, h⟩ := ok.dst g p hp hqg
    rw [hd] at hd2; cases hd2
    by_cases hjg : j = g
    · exact hjl (by rw [hjg, ← hge]; exact hr e he)
    · exact ((h j p' hp').1 hjg) hd'

theorem lst_set {n : Nat} {L : Array Bool} (hn : L.size = n) {i j : Nat} (hi : i < n) : Lst n (L.setIfInBounds i true) j ↔ j = i ∨ Lst n L j := by
  unfold Lst
  rw [Array.getElem?_setIfInBounds]
  by_cases h : i = j
  · subst h
    simp only [hn, hi, if_true]
    simp
  · simp only [if_neg h]
    constructor
    · exact fun h' => .inr h'
    · rintro (h' | h')
      · exact absurd h'.symm h
      · exact h'

/-- A quiet operation that was done ahead of its time is done. -/
theorem Rel.step_pend (ok : RegOk ops q M) {D : List Nat} {L : Array Bool} {aA aV : Act} {w : World} (R : Rel P ops M q r D L aA aV w)
    {i : Nat} {o : Oper} (ho : ops[i]? = some o) (hr : ∀ e ∈ aft o, Lst ops.size L e.on) (hi : i ∈ D) (hl : ¬ Lst ops.size L i) {Q : Exit → Act → World → Prop} {rest : List Nat}
    (h : ∀ v, Rel P ops M q r D (L.setIfInBounds i true) (aA.put o.dst v) aV w → wpOps P ops Q rest (aA.put o.dst v) w) : wpOps P ops Q (i :: rest) aA w := by
  obtain ⟨p, d, v, hp, hq, hd, hv, h1, h2⟩ := R.pend i hi hl
  rw [ho] at hp; cases hp
  obtain ⟨hs, hw⟩ := R.same ok ho hr
  have hdl : d < aA.tmps.size := by rw [R.sz]; exact lt_of_get hv
  have hin := lt_of_get ho
  have hset := fun j => lst_set (j := j) R.lsz hin
  have R' : Rel P ops M q r D (L.setIfInBounds i true) (aA.put o.dst v) aV w := by
    refine ⟨by rw [put_defers]; exact R.dfr, by rw [put_size]; exact R.sz, by simpa using R.lsz, fun j hj => ?_, R.clD, fun j hj p hp e he => ?_, fun t ht => ?_, fun j hj hjl => ?_⟩
    · rcases (hset j).1 hj with rfl | h'
      · exact hi
      · exact R.sub j h'
    · rw [hset]
      rcases (hset j).1 hj with rfl | h'
      · rw [ho] at hp; cases hp; exact .inr (hr e he)
      · exact .inr (R.clS j h' p hp e he)
    · rw [hd]
      by_cases htd : d = t
      · subst htd; rw [put_self hdl, hv]
      · rw [put_ne htd]
        refine R.slot t fun j hj hjl p hp => ?_
        by_cases hji : j = i
        · subst hji; rw [ho] at hp; cases hp; rw [hd]; simpa using htd
        · exact ht j hj (fun hc => (((hset j).1 hc).resolve_left hji) |> hjl) p hp
    · exact R.pend j hj fun hc => hjl ((hset j).2 (.inr hc))
  have hgoal := h v R'
  simp only [wpOps, ho]
  change if wants ops o aA = true then _ else _
  rw [hw]
  by_cases hwant : wants ops o aV = true
  · rw [if_pos hwant]
    refine .inl ?_
    unfold Oper.wp
    rw [hs]
    have hrun : (execOp aV.eval o).run P w = .ok (.value v) w := by
      rcases h1 hwant with ⟨_, hh⟩ | ⟨_, hh⟩
      · exact hh w
      · exact hh
    rw [hrun, Oper.upon_value]
    exact hgoal
  · rw [if_neg hwant]
    have := h2 (by simpa using hwant)
    rw [this] at hgoal
    exact hgoal
end

/-- The schedule, step by step. -/
def goRest (ops : Array Oper) : Nat → Nat → Array Bool → List Nat
  | 0, _, _ => []
  | fuel + 1, t, L =>
    let rs := (List.range ops.size).filter fun i =>
      !L.getD i true && ((ops[i]?).map (·.after.all fun e => !Region.binds .any e || L.getD e.on false)).getD false
    match rs[t % rs.length]? with
    | some i => i :: goRest ops fuel (t / rs.length) (L.setIfInBounds i true)
    | none => []
theorem go_eq (ops : Array Oper) : ∀ fuel t L acc, Region.linearise.go .any ops fuel t L acc = acc.reverse ++ goRest ops fuel t L := by
  intro fuel
  induction fuel with
  | zero => intro t L acc; simp [Region.linearise.go, goRest]
  | succ n ih =>
    intro t L acc
    unfold Region.linearise.go goRest
    dsimp only
    generalize List.filter _ (List.range ops.size) = rs
    cases rs[t % rs.length]? with
    | none => simp
    | some i => simp [ih]
/-- How many are not listed yet. -/
def lack (n : Nat) (L : Array Bool) : Nat := ((List.range n).filter fun i => !L.getD i true).length
theorem lack_set {n : Nat} {L : Array Bool} (hn : L.size = n) {i : Nat} (hi : i < n) (hl : L.getD i true = false) : lack n (L.setIfInBounds i true) < lack n L := by
  unfold lack
  have hsub : ∀ l : List Nat, l.Nodup → i ∈ l → (l.filter fun j => !(L.setIfInBounds i true).getD j true).length < (l.filter fun j => !L.getD j true).length := by
    have hle : ∀ l : List Nat, (l.filter fun j => !(L.setIfInBounds i true).getD j true).length ≤ (l.filter fun j => !L.getD j true).length := by
      intro l
      induction l with
      | nil => simp
      | cons x l ih =>
        by_cases hx : x = i
        · subst hx
          have : (L.setIfInBounds x true).getD x true = true := by simp [Array.getD_eq_getD_getElem?, hn, hi]
          simp only [List.filter_cons, this, Bool.not_true, hl, Bool.not_false, if_true, Bool.false_eq_true, if_false]
          simp only [List.length_cons]; omega
        · have : (L.setIfInBounds i true).getD x true = L.getD x true := by
            simp [Array.getD_eq_getD_getElem?, Array.getElem?_setIfInBounds_ne (Ne.symm hx)]
          simp only [List.filter_cons, this]
          split <;> (try simp only [List.length_cons]) <;> omega
    intro l
    induction l with
    | nil => intro _ h; cases h
    | cons x l ih =>
      intro hnd hm
      by_cases hx : x = i
      · subst hx
        have : (L.setIfInBounds x true).getD x true = true := by simp [Array.getD_eq_getD_getElem?, hn, hi]
        simp only [List.filter_cons, this, Bool.not_true, hl, Bool.not_false, if_true, Bool.false_eq_true, if_false]
        have := hle l
        simp only [List.length_cons]; omega
      · have : (L.setIfInBounds i true).getD x true = L.getD x true := by
          simp [Array.getD_eq_getD_getElem?, Array.getElem?_setIfInBounds_ne (Ne.symm hx)]
        simp only [List.filter_cons, this]
        have := ih (List.nodup_cons.1 hnd).2 ((List.mem_cons.1 hm).resolve_left (Ne.symm hx))
        split <;> (try simp only [List.length_cons]) <;> omega
  exact hsub _ List.nodup_range (List.mem_range.2 hi)

section
variable {P : Program} {ops : Array Oper} {M : List Nat} {q r : Nat}
theorem getD_lst {L : Array Bool} {i : Nat} (h : L.getD i false = true) (n : i < L.size) : Lst L.size L i := by
  refine ⟨n, ?_⟩
  simp only [Array.getD_eq_getD_getElem?] at h
  cases e : L[i]? with
  | none => rw [e] at h; cases h
  | some b => rw [e] at h; simp at h; rw [h]
theorem not_lst {L : Array Bool} {n i : Nat} (h : L.getD i true = false) : ¬ Lst n L i := by
  rintro ⟨_, h'⟩
  simp [Array.getD_eq_getD_getElem?, h'] at h
/-- The schedule's next step. -/
theorem rest_cases (ok : RegOk ops q M) {L : Array Bool} (hn : L.size = ops.size) (fuel t : Nat) (hf : lack ops.size L ≤ fuel) :
    (goRest ops fuel t L = [] ∧ ∀ i, i < ops.size → Lst ops.size L i) ∨
    ∃ i o fuel' t', ops[i]? = some o ∧ L.getD i true = false ∧ (∀ e ∈ aft o, Lst ops.size L e.on) ∧ goRest ops fuel t L = i :: goRest ops fuel' t' (L.setIfInBounds i true) ∧ fuel = fuel' + 1 := by
  by_cases hall : ∀ i, i < ops.size → L.getD i true = true
  · left
    refine ⟨?_, fun i hi => ⟨hi, ?_⟩⟩
    · cases fuel with
      | zero => rfl
      | succ n =>
        simp only [goRest]
        have : ((List.range ops.size).filter fun i => !L.getD i true && ((ops[i]?).map (·.after.all fun e => !Region.binds .any e || L.getD e.on false)).getD false) = [] := by
          rw [List.filter_eq_nil_iff]
          intro i hi
          simp [hall i (List.mem_range.1 hi)]
        rw [this]
        rfl
    · have := hall i hi
      simp only [Array.getD_eq_getD_getElem?] at this
      rw [Array.getElem?_eq_getElem (by omega)] at this ⊢
      simpa using this
  · right
    -- the least that is not listed
    have hex : ∃ i, i < ops.size ∧ L.getD i true = false := by
      refine Classical.byContradiction fun h => hall fun i hi => ?_
      cases hb : L.getD i true with
      | true => rfl
      | false => exact absurd ⟨i, hi, hb⟩ h
    obtain ⟨m, ⟨hm, hml⟩, hmin⟩ : ∃ m, (m < ops.size ∧ L.getD m true = false) ∧ ∀ k, k < m → ¬ (k < ops.size ∧ L.getD k true = false) := by
      obtain ⟨i, hi⟩ := hex
      induction i using Nat.strongRecOn with
      | _ i ih =>
        by_cases h : ∃ k, k < i ∧ k < ops.size ∧ L.getD k true = false
        · obtain ⟨k, hk, hk'⟩ := h; exact ih k hk hk'
        · exact ⟨i, hi, fun k hk hk' => h ⟨k, hk, hk'⟩⟩
    have hfuel : fuel ≠ 0 := by
      rintro rfl
      have : lack ops.size L = 0 := by omega
      unfold lack at this
      rw [List.length_eq_zero_iff, List.filter_eq_nil_iff] at this
      exact this m (List.mem_range.2 hm) (by rw [hml]; rfl)
    obtain ⟨n, rfl⟩ : ∃ n, fuel = n + 1 := ⟨fuel - 1, by omega⟩
    let rs := (List.range ops.size).filter fun i => !L.getD i true && ((ops[i]?).map (·.after.all fun e => !Region.binds .any e || L.getD e.on false)).getD false
    have hmrs : m ∈ rs := by
      refine List.mem_filter.2 ⟨List.mem_range.2 hm, ?_⟩
      rw [hml, Array.getElem?_eq_getElem hm]
      simp only [Bool.not_false, Bool.true_and, Option.map_some, Option.getD_some, Array.all_eq_true]
      intro k hk
      by_cases hbi : Region.binds .any ops[m].after[k] = true
      case neg => simp [hbi]
      have hb := ok.back m _ (Array.getElem?_eq_getElem hm) _ (List.mem_filter.2 ⟨Array.mem_toList_iff.2 (Array.getElem_mem hk), hbi⟩)
      have : L.getD (ops[m].after[k]).on false = true := by
        have h1 := hmin _ hb
        have hlt : (ops[m].after[k]).on < ops.size := Nat.lt_trans hb hm
        simp only [hlt, true_and, Bool.not_eq_false] at h1
        simp only [Array.getD_eq_getD_getElem?] at h1 ⊢
        rw [Array.getElem?_eq_getElem (by omega)] at h1 ⊢
        simpa using h1
      simp [this]
    have hlen : 0 < rs.length := List.length_pos_of_mem hmrs
    have hlt : t % rs.length < rs.length := Nat.mod_lt _ hlen
    have hget : rs[t % rs.length]? = some rs[t % rs.length] := List.getElem?_eq_getElem hlt
    have hmem : rs[t % rs.length] ∈ rs := List.getElem_mem hlt
    generalize hi : rs[t % rs.length] = i at hget hmem
    obtain ⟨h1, h2⟩ := List.mem_filter.1 hmem
    rw [List.mem_range] at h1
    rw [Bool.and_eq_true] at h2
    rw [Array.getElem?_eq_getElem h1] at h2
    refine ⟨i, ops[i], n, t / rs.length, Array.getElem?_eq_getElem h1, by simpa using h2.1, fun e he => ?_, ?_, rfl⟩
    · have h3 := h2.2
      simp only [Option.map_some, Option.getD_some, Array.all_eq_true] at h3
      obtain ⟨he1, he2⟩ := List.mem_filter.1 he
      obtain ⟨k, hk, rfl⟩ := Array.mem_iff_getElem.1 (Array.mem_toList_iff.1 he1)
      have h4 := h3 k hk
      rw [he2] at h4
      simp only [Bool.not_true, Bool.false_or] at h4
      have hb := ok.back i _ (Array.getElem?_eq_getElem h1) _ he
      rw [← hn]
      exact getD_lst h4 (by omega)
    · simp only [goRest]
      rw [show ((List.range ops.size).filter fun i => !L.getD i true && ((ops[i]?).map (·.after.all fun e => !Region.binds .any e || L.getD e.on false)).getD false) = rs from rfl]
      rw [hget]

theorem act_ext {a b : Act} (hd : a.defers = b.defers) (h : ∀ t : Nat, a.tmps[t]? = b.tmps[t]?) : a = b := by
  obtain ⟨x, y⟩ := a
  obtain ⟨x', y'⟩ := b
  simp only at hd h
  subst hd
  rw [Array.ext_getElem? h]

theorem rw_sound (ok : RegOk ops q M) {Q : Exit → Act → World → Prop} : Clos P ops M q r (Q .normal) fun D aV w =>
    ∀ fuel t L aA, Rel P ops M q r D L aA aV w → lack ops.size L ≤ fuel → wpOps P ops Q (goRest ops fuel t L) aA w where
  done D aV w hD hQ := by
    intro fuel
    induction fuel with
    | zero =>
      intro t L aA R hf
      rcases rest_cases ok R.lsz 0 t hf with ⟨hr, hall⟩ | ⟨i, o, f', t', _, _, _, _, hff⟩
      · rw [hr]
        have : aA = aV := act_ext R.dfr fun x => R.slot x fun j hj hjl p hp => absurd (hall j (lt_of_get hp)) hjl
        rw [this]; exact hQ
      · omega
    | succ n ih =>
      intro t L aA R hf
      rcases rest_cases ok R.lsz (n + 1) t hf with ⟨hr, hall⟩ | ⟨i, o, f', t', ho, hl, hr, he, hff⟩
      · rw [hr]
        have : aA = aV := act_ext R.dfr fun x => R.slot x fun j hj hjl p hp => absurd (hall j (lt_of_get hp)) hjl
        rw [this]; exact hQ
      · rw [he]
        obtain rfl : f' = n := by omega
        refine R.step_pend ok ho hr (hD i (lt_of_get ho)) (not_lst hl) fun v R' => ih _ _ _ R' ?_
        have := lack_set R.lsz (lt_of_get ho) hl
        omega
  quiet D aV w i o d v ho hi hq hrd hw hd hdl hev ih := by
    intro fuel t L aA R hf
    refine ih fuel t L aA ?_ hf
    have hil : ¬ Lst ops.size L i := fun h => hi (R.sub i h)
    refine ⟨by rw [put_defers]; exact R.dfr, by rw [put_size]; exact R.sz, R.lsz, fun j hj => List.mem_cons_of_mem _ (R.sub j hj), fun j hj p hp e he => ?_, R.clS, fun x hx => ?_, fun j hj hjl => ?_⟩
    · rcases List.mem_cons.1 hj with rfl | hj
      · rw [ho] at hp; cases hp; exact List.mem_cons_of_mem _ (hrd e he)
      · exact List.mem_cons_of_mem _ (R.clD j hj p hp e he)
    · have hne : o.dst ≠ some x := hx i List.mem_cons_self hil o ho
      rw [put_ne (fun h => hne (by rw [hd, h]))]
      exact R.slot x fun j hj hjl p hp => hx j (List.mem_cons_of_mem _ hj) hjl p hp
    · obtain ⟨d', hd', hst⟩ := ok.dst i o ho hq
      rw [hd] at hd'; cases hd'
      by_cases hji : j = i
      · subst hji
        have hsame : execOp (aV.put (some d) v).eval o = execOp aV.eval o := eval_congr fun x hx => by
          by_cases hxd : d = x
          · subst hxd
            exact absurd (ahead_in ok (· ∈ D) (fun k hk p hp => R.clD k hk p hp) j o ho hrd j (lt_of_get ho) ((hst j o ho).2.1 hx)) hi
          · exact put_ne hxd
        have hwant : wants ops o (aV.put (some d) v) = wants ops o aV := wants_eq ok ho fun g b p dg hg hp hdg => by
          refine put_ne fun hdd => ?_
          obtain ⟨_, e, he, hge⟩ := ok.guard j o g b ho hg
          have hgj : g ≠ j := by have := ok.back j o ho e he; omega
          exact (hst g p hp).1 hgj (by rw [hdg, hdd])
        exact ⟨o, d, v, ho, hq, hd, put_self hdl, fun _ => by rw [hsame]; exact hev, fun h => by rw [hwant, hw] at h; cases h⟩
      · have hjD : j ∈ D := (List.mem_cons.1 hj).resolve_left hji
        obtain ⟨p, dp, vp, hp, hqp, hdp, hvp, h1, h2⟩ := R.pend j hjD hjl
        have hsame : execOp (aV.put (some d) v).eval p = execOp aV.eval p := eval_congr fun x hx => by
          by_cases hxd : d = x
          · subst hxd
            exact absurd (ahead_in ok (· ∈ D) (fun k hk p hp => R.clD k hk p hp) j p hp (R.clD j hjD p hp) i (lt_of_get ho) ((hst j p hp).2.1 hx)) hi
          · exact put_ne hxd
        have hwant : wants ops p (aV.put (some d) v) = wants ops p aV := wants_eq ok hp fun g b pg dg hg hpg hdg => by
          refine put_ne fun hdd => ?_
          obtain ⟨_, e, he, hge⟩ := ok.guard j p g b hp hg
          have hgi : g ≠ i := fun h => hi (by rw [← h, ← hge]; exact R.clD j hjD p hp e he)
          exact (hst g pg hpg).1 hgi (by rw [hdg, hdd])
        refine ⟨p, dp, vp, hp, hqp, hdp, ?_, fun h => ?_, fun h => ?_⟩
        · rw [put_ne fun hdd => (hst j p hp).1 hji (by rw [hdp, hdd])]; exact hvp
        · rw [hsame]; rw [hwant] at h; exact h1 h
        · rw [hwant] at h; exact h2 h
  skip D aV w i o d ho hi hq hrd hw hd hdl ih := by
    intro fuel t L aA R hf
    refine ih fuel t L aA ?_ hf
    have hil : ¬ Lst ops.size L i := fun h => hi (R.sub i h)
    refine ⟨by rw [put_defers]; exact R.dfr, by rw [put_size]; exact R.sz, R.lsz, fun j hj => List.mem_cons_of_mem _ (R.sub j hj), fun j hj p hp e he => ?_, R.clS, fun x hx => ?_, fun j hj hjl => ?_⟩
    · rcases List.mem_cons.1 hj with rfl | hj
      · rw [ho] at hp; cases hp; exact List.mem_cons_of_mem _ (hrd e he)
      · exact List.mem_cons_of_mem _ (R.clD j hj p hp e he)
    · have hne : o.dst ≠ some x := hx i List.mem_cons_self hil o ho
      rw [put_ne (fun h => hne (by rw [hd, h]))]
      exact R.slot x fun j hj hjl p hp => hx j (List.mem_cons_of_mem _ hj) hjl p hp
    · obtain ⟨d', hd', hst⟩ := ok.dst i o ho hq
      rw [hd] at hd'; cases hd'
      by_cases hji : j = i
      · subst hji
        have hwant : wants ops o (aV.put (some d) undef) = wants ops o aV := wants_eq ok ho fun g b p dg hg hp hdg => by
          refine put_ne fun hdd => ?_
          obtain ⟨_, e, he, hge⟩ := ok.guard j o g b ho hg
          have hgj : g ≠ j := by have := ok.back j o ho e he; omega
          exact (hst g p hp).1 hgj (by rw [hdg, hdd])
        exact ⟨o, d, undef, ho, hq, hd, put_self hdl, (fun h => by rw [hwant, hw] at h; cases h), fun _ => rfl⟩
      · have hjD : j ∈ D := (List.mem_cons.1 hj).resolve_left hji
        obtain ⟨p, dp, vp, hp, hqp, hdp, hvp, h1, h2⟩ := R.pend j hjD hjl
        have hsame : execOp (aV.put (some d) undef).eval p = execOp aV.eval p := eval_congr fun x hx => by
          by_cases hxd : d = x
          · subst hxd
            exact absurd (ahead_in ok (· ∈ D) (fun k hk p hp => R.clD k hk p hp) j p hp (R.clD j hjD p hp) i (lt_of_get ho) ((hst j p hp).2.1 hx)) hi
          · exact put_ne hxd
        have hwant : wants ops p (aV.put (some d) undef) = wants ops p aV := wants_eq ok hp fun g b pg dg hg hpg hdg => by
          refine put_ne fun hdd => ?_
          obtain ⟨_, e, he, hge⟩ := ok.guard j p g b hp hg
          have hgi : g ≠ i := fun h => hi (by rw [← h, ← hge]; exact R.clD j hjD p hp e he)
          exact (hst g pg hpg).1 hgi (by rw [hdg, hdd])
        refine ⟨p, dp, vp, hp, hqp, hdp, ?_, fun h => ?_, fun h => ?_⟩
        · rw [put_ne fun hdd => (hst j p hp).1 hji (by rw [hdp, hdd])]; exact hvp
        · rw [hsame]; rw [hwant] at h; exact h1 h
        · rw [hwant] at h; exact h2 h
  effs D aV w hex heff := by
    intro fuel
    induction fuel with
    | zero =>
      intro t L aA R hf
      rcases rest_cases ok R.lsz 0 t hf with ⟨hr, hall⟩ | ⟨i, o, f', t', _, _, _, _, hff⟩
      · obtain ⟨i, hi, hiD⟩ := hex
        exact absurd (R.sub i (hall i hi)) hiD
      · omega
    | succ n ih =>
      intro t L aA R hf
      rcases rest_cases ok R.lsz (n + 1) t hf with ⟨hr, hall⟩ | ⟨i, o, f', t', ho, hl, hr, he, hff⟩
      · obtain ⟨i, hi, hiD⟩ := hex
        exact absurd (R.sub i (hall i hi)) hiD
      · rw [he]
        obtain rfl : f' = n := by omega
        have hlack := lack_set R.lsz (lt_of_get ho) hl
        by_cases hiD : i ∈ D
        · exact R.step_pend ok ho hr hiD (not_lst hl) fun v R' => ih _ _ _ R' (by omega)
        · obtain ⟨hqi, h1, h2⟩ := heff i o ho hiD fun e he' => R.sub _ (hr e he')
          obtain ⟨hs, hwant⟩ := R.same ok ho hr
          have hset := fun j => lst_set (j := j) R.lsz (lt_of_get ho)
          -- the relation behind the effect
          have mk : ∀ v w', (∀ j ∈ D, ¬ Lst ops.size (L.setIfInBounds i true) j → ∃ p d u, ops[j]? = some p ∧ q.testBit j = true ∧ p.dst = some d ∧ (aV.put o.dst v).tmps[d]? = some u ∧
                (wants ops p (aV.put o.dst v) = true → (r.testBit j = false ∧ ∀ w', (execOp (aV.put o.dst v).eval p).run P w' = .ok (.value u) w') ∨ (r.testBit j = true ∧ (execOp (aV.put o.dst v).eval p).run P w' = .ok (.value u) w')) ∧
                (wants ops p (aV.put o.dst v) = false → u = undef)) →
              Rel P ops M q r (i :: D) (L.setIfInBounds i true) (aA.put o.dst v) (aV.put o.dst v) w' := by
            intro v w' hp
            refine ⟨by rw [put_defers, put_defers]; exact R.dfr, by rw [put_size, put_size]; exact R.sz, by simpa using R.lsz, fun j hj => ?_, fun j hj p' hp' e he => ?_, fun j hj p' hp' e he => ?_, fun x hx => ?_, fun j hj hjl => ?_⟩
            · rcases (hset j).1 hj with rfl | h'
              · exact List.mem_cons_self
              · exact List.mem_cons_of_mem _ (R.sub j h')
            · rcases List.mem_cons.1 hj with rfl | hj
              · rw [ho] at hp'; cases hp'; exact List.mem_cons_of_mem _ (R.sub _ (hr e he))
              · exact List.mem_cons_of_mem _ (R.clD j hj p' hp' e he)
            · rw [hset]
              rcases (hset j).1 hj with rfl | h'
              · rw [ho] at hp'; cases hp'; exact .inr (hr e he)
              · exact .inr (R.clS j h' p' hp' e he)
            · have hslot : aA.tmps[x]? = aV.tmps[x]? ∨ o.dst = some x := by
                by_cases hox : o.dst = some x
                · exact .inr hox
                · refine .inl (R.slot x fun j hj hjl p' hp' => ?_)
                  by_cases hji : j = i
                  · subst hji; rw [ho] at hp'; cases hp'; exact hox
                  · exact hx j (List.mem_cons_of_mem _ hj) (fun hc => hjl (((hset j).1 hc).resolve_left hji)) p' hp'
              cases hod : o.dst with
              | none => rcases hslot with h | h
                        · exact h
                        · rw [hod] at h; cases h
              | some d =>
                by_cases hdx : d = x
                · subst hdx
                  simp only [Act.put, Array.getElem?_setIfInBounds, if_true, R.sz]
                · rw [put_ne hdx, put_ne hdx]
                  rcases hslot with h | h
                  · exact h
                  · rw [hod] at h; cases h; exact absurd rfl hdx
            · have hji : j ≠ i := fun h => hjl ((hset j).2 (.inl h))
              exact hp j ((List.mem_cons.1 hj).resolve_left hji) hjl
          -- what was pending is pending
          have pend : ∀ v w', (wants ops o aV = true → Again P ops M q r D i (aV.put o.dst v) w') → (wants ops o aV = false → w' = w) →
              ∀ j ∈ D, ¬ Lst ops.size (L.setIfInBounds i true) j → ∃ p d u, ops[j]? = some p ∧ q.testBit j = true ∧ p.dst = some d ∧ (aV.put o.dst v).tmps[d]? = some u ∧
                (wants ops p (aV.put o.dst v) = true → (r.testBit j = false ∧ ∀ w', (execOp (aV.put o.dst v).eval p).run P w' = .ok (.value u) w') ∨ (r.testBit j = true ∧ (execOp (aV.put o.dst v).eval p).run P w' = .ok (.value u) w')) ∧
                (wants ops p (aV.put o.dst v) = false → u = undef) := by
            intro v w' hag hww j hj hjl
            have hjl' : ¬ Lst ops.size L j := fun hc => hjl ((hset j).2 (.inr hc))
            obtain ⟨p, dp, vp, hp, hqp, hdp, hvp, e1, e2⟩ := R.pend j hj hjl'
            obtain ⟨dj, hdj, hst⟩ := ok.dst j p hp hqp
            rw [hdp] at hdj; cases hdj
            have hji : j ≠ i := fun h => by rw [h] at hj; exact hiD hj
            have hnb : bef M j i = false := by
              cases hb : bef M j i with
              | false => rfl
              | true => exact absurd (ahead_in ok _ R.clS i o ho hr j (lt_of_get hp) hb) hjl'
            have hnb' : bef M i j = false := by
              cases hb : bef M i j with
              | false => rfl
              | true => exact absurd (ahead_in ok (· ∈ D) (fun k hk p hp => R.clD k hk p hp) j p hp (R.clD j hj p hp) i (lt_of_get ho) hb) hiD
            have hsame : execOp (aV.put o.dst v).eval p = execOp aV.eval p := eval_congr fun x hx => by
              refine put_ne' fun hox => ?_
              rcases (hst i o ho).2.2 hqi x hox hx with h | h
              · rw [hnb'] at h; cases h
              · rw [hnb] at h; cases h
            have hwant' : wants ops p (aV.put o.dst v) = wants ops p aV := wants_eq ok hp fun g b pg dg hg hpg hdg => by
              refine put_ne' fun hox => ?_
              obtain ⟨hqg, e, he, hge⟩ := ok.guard j p g b hp hg
              obtain ⟨d3, hd3, hst3⟩ := ok.dst g pg hpg hqg
              rw [hdg] at hd3; cases hd3
              have hgi : i ≠ g := fun h => hiD (by rw [h, ← hge]; exact R.clD j hj p hp e he)
              exact (hst3 i o ho).1 hgi hox
            have hslotd : (aV.put o.dst v).tmps[dp]? = some vp := by
              rw [put_ne' ((hst i o ho).1 (Ne.symm hji))]; exact hvp
            refine ⟨p, dp, vp, hp, hqp, hdp, hslotd, fun hw' => ?_, fun hw' => by rw [hwant'] at hw'; exact e2 hw'⟩
            rw [hwant'] at hw'
            rcases e1 hw' with ⟨hrj, hall⟩ | ⟨hrj, hone⟩
            · exact .inl ⟨hrj, by rw [hsame]; exact hall⟩
            · refine .inr ⟨hrj, ?_⟩
              by_cases hwo : wants ops o aV = true
              · obtain ⟨d4, v4, hd4, hv4, hrun⟩ := hag hwo j hj hqp hrj hnb p hp (by rw [hwant']; exact hw')
                rw [hdp] at hd4; cases hd4
                rw [hslotd] at hv4; cases hv4
                exact hrun
              · rw [hww (by simpa using hwo), hsame]; exact hone
          simp only [wpOps, ho]
          change if wants ops o aA = true then _ else _
          rw [hwant]
          by_cases hwo : wants ops o aV = true
          · rw [if_pos hwo]
            refine .inl (EStep.wp (next := fun v w' => Again P ops M q r D i (aV.put o.dst v) w' ∧ ∀ fuel t L aA, Rel P ops M q r (i :: D) L aA (aV.put o.dst v) w' → lack ops.size L ≤ fuel → wpOps P ops Q (goRest ops fuel t L) aA w') ?_ ?_)
            · have := h1 hwo
              unfold EStep at this ⊢
              rw [hs]
              exact this
            · intro v w' ⟨hag, hX⟩
              exact hX _ _ _ _ (mk v w' (pend v w' (fun _ => hag) fun h => by rw [hwo] at h; cases h)) (by omega)
          · rw [if_neg hwo]
            have hwo' : wants ops o aV = false := by simpa using hwo
            exact h2 hwo' _ _ _ _ (mk undef w (pend undef w (fun h => absurd h hwo) fun _ => rfl)) (by omega)

/-- A region that draws its order. -/
theorem wp_region_mixed {id : Nat} {Q : Exit → Act → World → Prop} {a : Act} {w : World} (hm : (P.follows .mixedOrders || !Region.departs ops) = true) (ok : regOk0 ops q M = true)
    (h : RW P ops M q r (Q .normal) [] a { w with drawn := w.drawn + 1 }) : (Code.region id ops true).wp P Q a w := by
  have ok' := regOk_of ok
  refine wp_region_draw fun t => ?_
  unfold Region.schedule
  rw [if_pos hm]
  unfold Region.linearise
  rw [go_eq]
  simp only [List.reverse_nil, List.nil_append]
  refine h _ (rw_sound ok') _ _ _ _ ⟨rfl, rfl, by simp, fun i hi => ?_, fun i hi => (by cases hi), fun i hi => ?_, fun _ _ => rfl, fun i hi => (by cases hi)⟩ ?_
  · obtain ⟨h1, h2⟩ := hi; simp [h1] at h2
  · obtain ⟨h1, h2⟩ := hi; simp [h1] at h2
  · unfold lack
    exact Nat.le_trans (List.length_filter_le _ _) (by simp)
theorem wp_region_any {id : Nat} {Q : Exit → Act → World → Prop} {a : Act} {w : World} (ok : regOk ops q M = true)
    (h : RW P ops M q r (Q .normal) [] a { w with drawn := w.drawn + 1 }) : (Code.region id ops true).wp P Q a w := by
  unfold regOk at ok
  rw [Bool.and_eq_true] at ok
  exact wp_region_mixed (by rw [ok.1]; simp) ok.2 h
end
end Slb
