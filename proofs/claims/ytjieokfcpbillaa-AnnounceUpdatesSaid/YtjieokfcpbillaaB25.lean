/- Base 25: ranges over functions: a round of a loop, what yield does, the statement itself, a function that holds one. -/
import Derived.Test.YtjieokfcpbillaaB11
import Derived.RangeFuncSeq
namespace Slb
open Go
section
variable {P : Program} {N : Nat} {G : Env} {S : List HProp} {F : Fr}
/-- A fence that lets everything in. -/
structure Open (W : Fence) : Prop where
  fn : ∀ f, W.fn f
  depth : W.depth = none
  calls : ∀ {n P f args w R}, Calls P f args w R → CallsIn W n P f args w R
  rows : ∀ {n P row args w R}, Rows P row args w R → RowsIn W n P row args w R
theorem calls_wide {n : Nat} {P : Program} {f : FuncId} {args : Array Value} {w : World} {R : Ending → World → Prop} (h : Calls P f args w R) : CallsIn Fence.wide n P f args w R := callsIn_wide.2 h
theorem rows_wide {n : Nat} {P : Program} {row : String} {args : Array Value} {w : World} {R : Value → World → Prop} (h : Rows P row args w R) : RowsIn Fence.wide n P row args w R := fun c cs _ => by
  obtain ⟨v, w', r, s⟩ := h c cs
  exact ⟨v, w', r, stepsIn_wide.2 s⟩
theorem open_wide : Open Fence.wide := ⟨fun _ => trivial, rfl, calls_wide, rows_wide⟩
theorem open_round (l : Nat) : Open (Fence.wide.inRound l) := ⟨fun _ => trivial, rfl, fun h => calls_wide h, fun h => rows_wide h⟩

theorem EStep.wpIn {W : Fence} (hW : Open W) {n : Nat} {o : Oper} {a : Act} {w : World} {next : Value → World → Prop} {K : Act → World → Prop} {Q : Exit → Act → World → Prop} (hd : ∀ c, o.op ≠ .defer c)
    (h : EStep P o a w next) (hk : ∀ v w', next v w' → K (a.put o.dst v) w') : o.wpIn W n P a w K Q := by
  refine ⟨fun f _ => hW.fn f, ?_⟩
  rw [Oper.semAt_eq _ _ _ hd]
  unfold EStep at h
  unfold Oper.uponIn
  split at h
  · rename_i v w' e; simp only [e]; exact hk _ _ h
  · rename_i w' e; simp only [e]; exact hk _ _ h
  · rename_i f args w' e
    simp only [e]
    refine ⟨fun hx => (by rw [hW.depth] at hx; cases hx), (hW.calls h).mono fun e' w'' r => ?_⟩
    cases e' with
    | returned v => exact hk _ _ r
    | panicked c => exact r.elim
    | outgrown => exact r.elim
  · rename_i row args w' e
    simp only [e]
    exact ⟨fun hx => (by rw [hW.depth] at hx; cases hx), (hW.rows h).mono fun v w'' r => hk _ _ r⟩
  · exact h.elim
/-- A region in the text's order, behind a fence. -/
def SqI (P : Program) (W : Fence) (N : Nat) (ops : Array Oper) (l : List Nat) (Q : Exit → Act → World → Prop) (G : Env) (S : List HProp) (F : Fr) : Prop := J N G S F (wpOpsIn W 0 P ops Q l)
theorem SqI.nil {W : Fence} {ops : Array Oper} {Q : Exit → Act → World → Prop} (h : J N G S F (Q .normal)) : SqI P W N ops [] Q G S F := h
theorem SqI.eff {W : Fence} (hW : Open W) {ops : Array Oper} {Q : Exit → Act → World → Prop} {i : Nat} {l : List Nat} {o : Oper} {d : Nat} {next : Value → List HProp → Prop} (ho : ops[i]? = some o) (hdf : ∀ c, o.op ≠ .defer c) (hw : Want N G S F ops o true) (hd : o.dst = some d) (hn : d < N)
    (he : EF P N G S F o next) (h : ∀ v S', next v S' → SqI P W N ops l Q (.cons d v G) S' F) : SqI P W N ops (i :: l) Q G S F := fun a w s => by
  have hw' : Region.wanted o (yielded ops a.tmps) = true := hw a w s
  simp only [wpOpsIn, ho, hw', if_true]
  refine EStep.wpIn hW hdf (he a w s) fun v w' ⟨S', hv, hs⟩ => ?_
  rw [hd]
  exact h v S' hv _ _ (s.put hn v hs)
theorem SqI.act {W : Fence} (hW : Open W) {ops : Array Oper} {Q : Exit → Act → World → Prop} {i : Nat} {l : List Nat} {o : Oper} {next : Value → List HProp → Prop} (ho : ops[i]? = some o) (hdf : ∀ c, o.op ≠ .defer c) (hw : Want N G S F ops o true) (hd : o.dst = none)
    (he : EF P N G S F o next) (h : ∀ v S', next v S' → SqI P W N ops l Q G S' F) : SqI P W N ops (i :: l) Q G S F := fun a w s => by
  have hw' : Region.wanted o (yielded ops a.tmps) = true := hw a w s
  simp only [wpOpsIn, ho, hw', if_true]
  refine EStep.wpIn hW hdf (he a w s) fun v w' ⟨S', hv, hs⟩ => ?_
  rw [hd]
  exact h v S' hv _ _ (s.world hs)
theorem SqI.quiet {W : Fence} (hW : Open W) {ops : Array Oper} {Q : Exit → Act → World → Prop} {i : Nat} {l : List Nat} {o : Oper} {d : Nat} {v : Value} (ho : ops[i]? = some o) (hdf : ∀ c, o.op ≠ .defer c) (hw : Want N G S F ops o true) (hd : o.dst = some d) (hn : d < N)
    (he : QR P N G S F o v) (h : SqI P W N ops l Q (.cons d v G) S F) : SqI P W N ops (i :: l) Q G S F :=
  SqI.eff hW ho hdf hw hd hn he.eff (by rintro _ _ ⟨rfl, rfl⟩; exact h)
/-- What a call of yield does to the round's caller: the round's atoms turn from S to S'; on it goes. -/
def Yields (P : Program) (l : Nat) (v : Value) (S : List HProp) (F : Fr) (S' : List HProp) : Prop :=
  ∀ w, Sat S F w → YieldAt Fence.wide 0 P l #[v] w fun e w' => e = .returned (.bool true) ∧ Sat S' F w'
/-- A call of yield. -/
theorem SqI.yield {ops : Array Oper} {Q : Exit → Act → World → Prop} {i : Nat} {l : List Nat} {o : Oper} {d : Nat} {x y : Operand} {at_ : Array TypeId} {lp : Nat} {v : Value} {m m' r : List HProp} (ho : ops[i]? = some o) (hw : Want N G S F ops o true) (hd : o.dst = some d) (hn : d < N)
    (hop : o.op = .call ⟨.value x, #[y], at_⟩) (hx : opv G x = some (.func (.yield lp) #[] #[])) (hy : opv G y = some v) (t : Takes S m r)
    (hs : ∀ F' : Fr, PH.le F.h F'.h → Yields P lp v m F' m')
    (h : SqI P Fence.wide N ops l Q (.cons d (.bool true) G) (m' ++ r) F) : SqI P Fence.wide N ops (i :: l) Q G S F := fun a w s => by
  have hw' : Region.wanted o (yielded ops a.tmps) = true := hw a w s
  simp only [wpOpsIn, ho, hw', if_true]
  obtain ⟨F', s1, hle, hr, back⟩ := (s.sat.takes t).lend
  obtain ⟨fn, tmps, assign, body, hrun, hR⟩ := hs F' hle w s1
  refine ⟨fun f _ => trivial, ?_⟩
  rw [Oper.semAt_eq _ _ _ (fun c hc => by rw [hop] at hc; cases hc)]
  have hrun' : (execOp a.eval o).run P w = .ok (.round lp fn tmps assign body) w := by
    unfold execOp
    simp only [hop, resolve, s.eval hx, Deferred.ofValue]
    simp [Sem.run_bind, invoke, s.eval hy, hrun, Result.andThen]
  rw [hrun']
  refine ⟨fun hx => (by cases hx), hR.mono fun e w' ⟨he, hs'⟩ => ?_⟩
  subst he
  rw [hd]
  exact h _ _ (s.put hn _ (back _ _ hs'))
theorem Run.regionY {id : Nat} {ops : Array Oper} {K : Posts} (h : SqI P Fence.wide N ops (List.range ops.size) K.q G S F) : Run P N (.region id ops false) K G S F := fun a w s => wpIn_wide.1 (wpIn_region (n := 0) (h a w s))

theorem Sat.putObj {b : Nat} {o : Obj} {w : World} (s : Sat (pts b o :: S) F w) (o' : Obj) : Sat (pts b o' :: S) F (w.putObj b o') :=
  s.set o' rfl rfl ⟨rfl, Nat.le_refl _⟩ (World.putObj_heap_same (Array.getElem?_eq_some_iff.1 s.at).1) fun _ hc => World.putObj_heap_other hc
/-- A loop's record. -/
abbrev lrec (fn : FuncId) (tmps : Array Value) (p : Tmp) (assign body : Code) (D : Nat) : Loop := { state := .ready, pending := none, fn, tmps, params := #[p], assign, body, defers := D }
/-- A round of the loop l: yield does what the body does. The loop's variable lies in a block. -/
theorem yields_of {l : Nat} {fn : FuncId} {tmps : Array Value} {p : Nat} {assign body : Code} {D : Nat} {v : Value} {G0 : Env} {A1 : Nat → HProp} {S' : List HProp} (d : Nat) (hsz : tmps.size = N) (hp : p < N) (hG : ∀ t u, lk G0 t = some u → tmps[t]? = some u)
    (hass : ∀ (S : List HProp) (K : Act → World → Prop), (∀ b, J N (.cons d (.pointer (some ⟨b, 0, none⟩)) (.cons p v G0)) (A1 b :: S) F K) → J N (.cons p v G0) S F (assign.wpIn (Fence.wide.inRound l) 0 P (Exit.then K fun _ _ _ => False)))
    (hbody : ∀ (b : Nat) (A : HProp) (Q : Exit → Act → World → Prop), (∀ G2, J N G2 (A :: S') F (Q .normal)) → J N (.cons d (.pointer (some ⟨b, 0, none⟩)) (.cons p v G0)) (A1 b :: A :: S) F (body.wpIn (Fence.wide.inRound l) 0 P Q)) :
    Yields P l v (pts l (.loop (lrec fn tmps p assign body D)) :: S) F (pts l (.loop (lrec fn tmps p assign body D)) :: S') := fun w s => by
  refine ⟨fn, _, assign, body, run_yield s.at rfl, roundIn_of_wpIn trivial ?_⟩
  have st : St N G0 (pts l (.loop (lrec fn tmps p assign body D)) :: S) F { tmps := tmps, defers := [] } w := ⟨rfl, hsz, hG, s⟩
  have h1 := hass _ (fun a₁ w₁ => ∃ w₂, (Instr.beginRound l).run P w₁ = .ok () w₂ ∧ body.wpIn (Fence.wide.inRound l) 0 P (roundPost P l fun e w' => e = .returned (.bool true) ∧ Sat (pts l (.loop (lrec fn tmps p assign body D)) :: S') F w') a₁ w₂) ?_ _ _ (st.put hp v s)
  · simpa [Act.put] using h1
  · intro b a₁ w₁ s₁
    have s₂ := s₁.sat.perm (List.Perm.swap _ _ _)
    refine ⟨_, run_beginRound s₂.at rfl, ?_⟩
    refine hbody b _ _ (fun G2 a₂ w₂ s₂ => ?_) _ _ (s₁.world ((s₂.putObj _).perm (List.Perm.swap _ _ _)))
    exact ⟨_, _, run_endRound none s₂.sat.at, rfl, s₂.sat.putObj _⟩
theorem Yields.flat {l : Nat} {v : Value} {L L' : List HProp} (h : Yields P l v L F L') : Yields P l v [stars L] F [stars L'] := fun w s => by
  have s1 : Sat L F w := by simpa using Sat.flat s
  obtain ⟨fn, tmps, assign, body, hr, hR⟩ := h w s1
  exact ⟨fn, tmps, assign, body, hr, hR.mono fun e w' ⟨h1, h2⟩ => ⟨h1, Sat.unflat (by simpa using h2)⟩⟩
theorem Spec.conseq {f : FuncId} {args : Array Value} {S1 : List HProp} {R R1 : Value → List HProp → Prop} (hp : ∀ w, Sat S F w → Sat S1 F w) (h : Spec P f args S1 F R1) (hr : ∀ v S' w, R1 v S' → Sat S' F w → ∃ S2, R v S2 ∧ Sat S2 F w) : Spec P f args S F R := fun w s =>
  (h w (hp w s)).mono fun e w' ⟨v, S', he, r, s'⟩ => by
    obtain ⟨S2, r2, s2⟩ := hr v S' w' r s'
    exact ⟨v, S2, he, r2, s2⟩
/-- The statement itself: over a function that has its contract against whatever round. -/
theorem range_over {g : Operand} {p : Tmp} {assign body : Code} {Q : Exit → Act → World → Prop} {gf : FuncId} {lb : Array Value} {X : Type} {T : X → List HProp} (hg : opv G g = some (.func (.func gf) #[] lb)) (hc : CanEnter P gf)
    (hseq : ∀ (F' : Fr) (fn : FuncId) (tmps : Array Value) (l D : Nat), PH.le F.h F'.h → tmps.size = N → (∀ t u, lk G t = some u → tmps[t]? = some u) →
      Spec P gf (#[.func (.yield l) #[] #[]] ++ lb) (pts l (.loop (lrec fn tmps p assign body D)) :: S) F' fun _ S' => ∃ x, S' = pts l (.loop (lrec fn tmps p assign body D)) :: T x)
    (hQ : ∀ (D : Nat) (x : X) (a : Act) (w : World), St N G (pts D (.deferred (some [])) :: T x) F a w → Q .normal { a with defers := [{ target := .collected D, args := #[] }] } w) :
    J N G S F fun a w => (Code.rangeFunc g #[p] assign body).wpIn Fence.wide 0 P Q a w := fun a w s => by
  refine wpIn_rangeFunc fun fn _ => ?_
  have h0 : (Instr.enterLoop fn a.tmps #[p] assign body Fence.wide.round).run P w = .ok (w.heap.size + 1, [{ target := .collected w.heap.size, args := #[] }]) ((w.alloc (.deferred (some []))).alloc (.loop (lrec fn a.tmps p assign body w.heap.size))) := run_enterLoop_outer _ _ _ _ _
  generalize hW1 : (w.alloc (.deferred (some []))).alloc (.loop (lrec fn a.tmps p assign body w.heap.size)) = W1 at h0
  have h1 : (resolve a.eval (rangeCall g (w.heap.size + 1)) 0).run P W1 = .ok { target := .fn (.func gf) lb, args := #[.func (.yield (w.heap.size + 1)) #[] #[]] } W1 := by
    simp only [resolve, s.eval hg]
    simp [go_sem]
  have h2 : (invoke (.fn (.func gf) lb) #[.func (.yield (w.heap.size + 1)) #[] #[]]).run P W1 = .ok (.enter gf (#[.func (.yield (w.heap.size + 1)) #[] #[]] ++ lb)) W1 := by
    simp only [invoke]
    exact run_enter hc _ _
  refine ⟨_, _, W1, _, W1, gf, _, W1, h0, h1, fun _ _ => True.intro, h2, fun h => (by cases h), ?_⟩
  subst hW1
  · refine calls_wide ?_
    have s1 := s.sat.new (.deferred (some []))
    have s2 := s1.new (.loop (lrec fn a.tmps p assign body w.heap.size))
    have s3 : Sat ([pts (w.heap.size + 1) (.loop (lrec fn a.tmps p assign body w.heap.size))] ++ S ++ [pts w.heap.size (.deferred (some []))]) F ((w.alloc (.deferred (some []))).alloc (.loop (lrec fn a.tmps p assign body w.heap.size))) := by
      refine Sat.perm ?_ (by have h := s2; simp only [Array.size_push] at h; exact h)
      simp only [List.cons_append, List.nil_append]
      exact (List.perm_append_comm (l₁ := [_]) (l₂ := S)).cons _
    obtain ⟨F', s4, hle, hr, back⟩ := Sat.lend (m := pts (w.heap.size + 1) (.loop (lrec fn a.tmps p assign body w.heap.size)) :: S) (by simpa using s3)
    refine (hseq F' fn a.tmps (w.heap.size + 1) w.heap.size hle s.size s.slots _ s4).mono fun e w' ⟨v, S', he, ⟨x, hx⟩, s'⟩ => ?_
    subst he hx
    have s5 := back _ _ s'
    refine ⟨_, _, run_endLoop s5.at (fun h => by cases h), ?_⟩
    have s6 := (s5.putObj (.loop { lrec fn a.tmps p assign body w.heap.size with state := .exhausted })).drop
    rw [s.defers]
    refine hQ w.heap.size x a _ ⟨s.defers, s.size, s.slots, Sat.perm ?_ s6⟩
    exact List.perm_append_comm (l₁ := T x) (l₂ := [_])
theorem RunI.seq {W : Fence} {x y : Code} {Q : Exit → Act → World → Prop} (h : ∀ k : Act → World → Prop, (∀ a w, y.wpIn W 0 P Q a w → k a w) → J N G S F (x.wpIn W 0 P (Exit.then k Q))) : J N G S F ((Code.seq x y).wpIn W 0 P Q) := fun a w s =>
  wpIn_seq_k fun K hK => h K hK a w s
theorem RunI.region {W : Fence} {id : Nat} {ops : Array Oper} {Q : Exit → Act → World → Prop} (h : SqI P W N ops (List.range ops.size) Q G S F) : J N G S F ((Code.region id ops false).wpIn W 0 P Q) := fun a w s => wpIn_region (h a w s)
theorem RunI.block {W : Fence} {id : Nat} {c : Code} {Q : Exit → Act → World → Prop} (h : J N G S F (c.wpIn W 0 P (Exit.inBlock id Q))) : J N G S F ((Code.block id c).wpIn W 0 P Q) := fun a w s => wpIn_block (h a w s)
/-- A region's quiet steps where calls are put off. -/
theorem SqM.quiet {W : Fence} (hW : Open W) {ds : List Deferred} {ops : Array Oper} {Q : Exit → Act → World → Prop} {i : Nat} {l : List Nat} {o : Oper} {d : Nat} {v : Value} (ho : ops[i]? = some o) (hdf : ∀ c, o.op ≠ .defer c) (hw : o.guard = none) (hd : o.dst = some d) (hn : d < N)
    (he : QR P N G S F o v) (h : J N (.cons d v G) S F fun a w => wpOpsIn W 0 P ops Q l { a with defers := ds } w) : J N G S F fun a w => wpOpsIn W 0 P ops Q (i :: l) { a with defers := ds } w := fun a w s => by
  have hw' : Region.wanted o (yielded ops a.tmps) = true := Want.none (N := N) (G := G) (S := S) (F := F) hw a w s
  simp only [wpOpsIn, ho, hw', if_true]
  refine ⟨fun f _ => hW.fn f, ?_⟩
  rw [Oper.semAt_eq _ _ _ hdf]
  have he' : (execOp a.eval o).run P w = .ok (.value v) w := he a w s
  rw [show execOp ({ a with defers := ds } : Act).eval o = execOp a.eval o from rfl, he']
  show wpOpsIn W 0 P ops Q l _ w
  rw [hd]
  exact h _ _ (s.put hn v s.sat)
/-- A function that ranges over a function. -/
theorem Spec.introM {f : FuncId} {fn : Func} {c : Code} {args : List Value} {R : Value → List HProp → Prop} (hf : P.funcs[f]? = some fn) (hb : fn.body = some c) (hN : fn.ntmps = N) (hl : args.length ≤ N)
    (h : ∀ Q : Exit → Act → World → Prop, (∀ (D : Nat) (G : Env) (S' : List HProp) (v : Value), (∀ a : Act, (∀ t u, lk G t = some u → a.tmps[t]? = some u) → ∀ w, (results fn a.tmps).run P w = .ok v w) → R v S' →
      J N G (pts D (.deferred (some [])) :: S') F fun a w => Q .ret { a with defers := [{ target := .collected D, args := #[] }] } w) → J N (initG args 0) S F (c.wpIn Fence.wide 0 P Q)) : Spec P f args.toArray S F R := fun w s => by
  refine callsIn_wide.1 (callsIn_of_wp_marks (n := 0) hf hb trivial (h _ ?_ _ w ⟨rfl, by simp [hN]; omega, fun t v e => ?_, s⟩))
  · intro D G S' v hv hR a w' s'
    have hv' := hv a s'.slots
    refine ⟨by simp, .inl ⟨D, _, rfl, run_takeDeferred s'.sat.at, v, hv' _, v, S', rfl, hR, (s'.sat.putObj _).drop⟩⟩
  · obtain ⟨_, h2⟩ := lk_initG e
    have hlt := (List.getElem?_eq_some_iff.1 h2).1
    simp only [Nat.sub_zero] at h2 hlt
    rw [Array.getElem?_append_left (by simpa using hlt)]
    simpa using h2
theorem resM {fn : Func} {t : Nat} {v : Value} (h : fn.results = #[.tmp t]) (hv : lk G t = some v) : ∀ a : Act, (∀ t u, lk G t = some u → a.tmps[t]? = some u) → ∀ w, (results fn a.tmps).run P w = .ok v w := fun a ha w => by
  have := ha t v hv
  simp [results, h, this, pure, Sem.run]
end
end Slb
