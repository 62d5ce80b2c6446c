/- Base 15: an argument that is a slice. -/
import Derived.Test.YtjieokfcpbillaaB14
import Derived.Deep.Slices
namespace Slb
open Go Go.Proofs Go.RowKit Go.WideShapes Go.ChangeShapes

/-- What a slice that was handed in reads as. -/
def ArgSl {α : Type} (F : Fr) (a : Option Addr) (z : Nat) (enc : α → List Value) (xs : List α) : Prop := 0 < xs.length → ∃ b off, a = some ⟨b, off, none⟩ ∧ ∃ (l : List Value) (ty : TypeId) (fz : Nat × Nat), F.h b = some (.cells l.toArray ty fz) ∧ SubL l off (xs.length * z) (xs.flatMap enc)
theorem ArgSl.mono {α : Type} {F F' : Fr} {a : Option Addr} {z : Nat} {enc : α → List Value} {xs : List α} (h : ArgSl F a z enc xs) (hle : PH.le F.h F'.h) : ArgSl F' a z enc xs := fun h0 => by
  obtain ⟨b, off, h1, l, ty, fz, h2, h3⟩ := h h0
  exact ⟨b, off, h1, l, ty, fz, hle _ _ h2, h3⟩
theorem ArgSl.get {α : Type} {F : Fr} {a : Option Addr} {z : Nat} {enc : α → List Value} {xs : List α} (h : ArgSl F a z enc xs) (h0 : 0 < xs.length) : ∃ b off, a = some ⟨b, off, none⟩ ∧ ∀ S, SlAt S F b off z enc xs := by
  obtain ⟨b, off, h1, l, ty, fz, h2, h3⟩ := h h0
  exact ⟨b, off, h1, fun S => SlAt.fr h2 h3⟩
theorem subL_of_get {l s : List Value} {off n : Nat} (hs : s.length = n) (hn : 0 < n) (h : ∀ j, j < n → l[off + j]? = s[j]?) : SubL l off n s := by
  have h0 : off < l.length := by
    have := h 0 hn
    rw [Nat.add_zero, List.getElem?_eq_getElem (by omega : 0 < s.length)] at this
    exact (List.getElem?_eq_some_iff.1 this).1
  have h1 : off + n ≤ l.length := by
    have := h (n - 1) (by omega)
    rw [List.getElem?_eq_getElem (by omega : n - 1 < s.length)] at this
    have := (List.getElem?_eq_some_iff.1 this).1
    omega
  have hmid : (l.drop off).take n = s := by
    apply List.ext_getElem?
    intro j
    by_cases hj : j < n
    · rw [List.getElem?_take_of_lt hj, List.getElem?_drop]
      exact h j hj
    · rw [List.getElem?_eq_none (by simp; omega), List.getElem?_eq_none (by omega)]
  refine ⟨l.take off, l.drop (off + n), ?_, by simp; omega, hs⟩
  rw [← hmid, ← List.drop_drop, List.append_assoc, List.take_append_drop, List.take_append_drop]
theorem list_of_each {α : Type} {Q : Nat → α → Prop} : ∀ (n : Nat), (∀ i, i < n → ∃ x, Q i x) → ∃ xs : List α, xs.length = n ∧ ∀ i x, xs[i]? = some x → Q i x
  | 0, _ => ⟨[], rfl, fun i x h => by simp at h⟩
  | n + 1, h => by
    obtain ⟨xs, h1, h2⟩ := list_of_each n fun i hi => h i (by omega)
    obtain ⟨x, hx⟩ := h n (by omega)
    refine ⟨xs ++ [x], by simp [h1], fun i y hy => ?_⟩
    by_cases hi : i < n
    · rw [List.getElem?_append_left (by omega)] at hy
      exact h2 i y hy
    · have hin : i = n := by
        have := (List.getElem?_eq_some_iff.1 hy).1
        simp at this; omega
      subst hin
      rw [List.getElem?_append_right (by omega)] at hy
      simp [h1] at hy
      subst hy; exact hx
theorem sl_arg {P : Program} {t e : TypeId} {α : Type} {enc : α → List Value} {z : Nat} (ht : P.underlying t = some (.slice e)) (hte : TE P e α enc) (hz : P.cellsOf e = z) (hz0 : 0 < z) (hl : ∀ x, (enc x).length = z) {W : World} {r : Reach} {b0 : Nat} {v : Value} (hv : Value.okWide P W r b0 t v)
    {H : Type} {en : TypeId × Value → H} {base : Nat} {sp : Nat → Bool} {held : Bool} {d : DataW H} {ps : List MemPlace} (h : DataW.Trod en P W base sp held t v d ps) :
    ∃ (a : Option Addr) (xs : List α) (c : Nat), v = .slice a xs.length c ∧ xs.length ≤ maxLen ∧ ArgSl (frAll W) a z enc xs := by
  obtain ⟨fuel, hf⟩ := h
  have hcell : v.cells = #[v] := by
    unfold Value.okWide at hv
    rw [ht] at hv
    simp only at hv
    cases v <;> first | rfl | (simp [Cell.okWide, ht, Cell.ok] at hv)
  rw [hcell] at hf
  rcases Go.Deep.open_slice ht hf with ⟨h1, _⟩ | ⟨a, len, cap, m, n, D, Pl, h1, hb, hle, hm, hmm, _, hx⟩
  · simp only [List.cons.injEq, and_true] at h1
    exact ⟨none, [], 0, by simpa using h1, Nat.zero_le _, fun h => by simp at h⟩
  · simp only [List.cons.injEq, and_true] at h1
    have hlm : len ≤ m := by rw [hmm]; split <;> omega
    obtain ⟨xs, hlen, hxs⟩ := list_of_each (Q := fun i x => W.cells? base (a.add (i * z)) z = some (enc x)) len fun i hi => by
      obtain ⟨cs', hc, hd⟩ := hx i (by omega)
      obtain ⟨x, rfl⟩ := hte _ _ _ _ _ _ _ _ hd
      rw [hz] at hc
      exact ⟨x, hc⟩
    refine ⟨some a, xs, cap, by rw [hlen]; simpa using h1, by omega, fun h0 => ?_⟩
    have hall : ∀ i x, xs[i]? = some x → ∀ j, j < z → W.cell? ((a.add (i * z)).add j) = (enc x)[j]? := fun i x hi j hj => by
      obtain ⟨_, _, h3⟩ := World.cells?_some (hxs i x hi)
      exact h3 j hj
    have h00 := hall 0 xs[0] (List.getElem?_eq_getElem h0) 0 hz0
    have hl0 : 0 < (enc (xs[0]'h0)).length := by rw [hl]; exact hz0
    obtain ⟨v0, hv0⟩ : ∃ v0, (enc (xs[0]'h0))[0]? = some v0 := ⟨_, List.getElem?_eq_getElem hl0⟩
    rw [hv0] at h00
    rw [show (a.add (0 * z)).add 0 = a by simp [Addr.add]] at h00
    obtain ⟨ab, ao, asp⟩ := a
    have hblk : ∃ l ty fz, W.heap[ab]? = some (.cells l ty fz) ∧ asp = none := by
      unfold World.cell? at h00
      split at h00
      · rename_i c t' f' hh
        refine ⟨c, t', f', hh, ?_⟩
        cases asp with
        | none => rfl
        | some q => simp at h00
      · cases h00
    obtain ⟨l, ty, fz, hh, rfl⟩ := hblk
    refine ⟨ab, ao, rfl, l.toList, ty, fz, (by show W.heap[ab]? = _; simpa using hh), ?_⟩
    refine subL_of_get (flatMap_len hl xs) (Nat.mul_pos h0 hz0) fun j hj => ?_
    have hlt : j / z < xs.length := Nat.div_lt_of_lt_mul (by rw [Nat.mul_comm]; exact hj)
    have hmod : j % z < z := Nat.mod_lt _ hz0
    have hrow := sub_row (enc := enc) hl (xs := xs) (i := j / z) (List.getElem?_eq_getElem hlt)
    have hg := hrow.get (i := j % z) hmod
    have hj2 : j / z * z + j % z = j := by rw [Nat.mul_comm]; exact Nat.div_add_mod j z
    rw [hj2] at hg
    rw [hg, ← hall (j / z) _ (List.getElem?_eq_getElem hlt) (j % z) hmod]
    rw [add_lit, add_lit, show ao + j / z * z + j % z = ao + j by omega]
    unfold World.cell?
    simp [hh]
theorem J.decT {N : Nat} {G : Env} {S : List HProp} {F : Fr} {Φ : Act → World → Prop} {d : Nat} {p : Prop} [Decidable p] (hp : p) (j : J N (.cons d (.bool true) G) S F Φ) : J N (.cons d (.bool (decide p)) G) S F Φ := by
  simp only [hp, decide_true]; exact j
theorem J.decF {N : Nat} {G : Env} {S : List HProp} {F : Fr} {Φ : Act → World → Prop} {d : Nat} {p : Prop} [Decidable p] (hp : ¬ p) (j : J N (.cons d (.bool false) G) S F Φ) : J N (.cons d (.bool (decide p)) G) S F Φ := by
  simp only [hp, decide_false]; exact j
theorem J.boolT {N : Nat} {G : Env} {S : List HProp} {F : Fr} {Φ : Act → World → Prop} {d : Nat} {b : Bool} (hp : b = true) (j : J N (.cons d (.bool true) G) S F Φ) : J N (.cons d (.bool b) G) S F Φ := by subst hp; exact j
theorem J.boolF {N : Nat} {G : Env} {S : List HProp} {F : Fr} {Φ : Act → World → Prop} {d : Nat} {b : Bool} (hp : b = false) (j : J N (.cons d (.bool false) G) S F Φ) : J N (.cons d (.bool b) G) S F Φ := by subst hp; exact j
theorem QP.eqlB {P : Program} {N : Nat} {G : Env} {S : List HProp} {F : Fr} {o : Oper} {t t' : TypeId} {x y : Operand} {a b : Bool} (ho : o.op = .binOp .eql t x y t') (hx : opv G x = some (.bool a)) (hy : opv G y = some (.bool b)) (hu : P.underlying t = some .bool) : QP P N G S F o (.bool (a == b)) := fun ac w s w' => by
  unfold execOp; simp [ho, s.eval hx, s.eval hy, eqGuard_at_bool, run_eql_bool w' t a b hu]
theorem QP.neqB {P : Program} {N : Nat} {G : Env} {S : List HProp} {F : Fr} {o : Oper} {t t' : TypeId} {x y : Operand} {a b : Bool} (ho : o.op = .binOp .neq t x y t') (hx : opv G x = some (.bool a)) (hy : opv G y = some (.bool b)) (hu : P.underlying t = some .bool) : QP P N G S F o (.bool (a != b)) := fun ac w s w' => by
  unfold execOp; simp [ho, s.eval hx, s.eval hy, eqGuard_at_bool, run_neq_bool w' t a b hu, bne]
theorem TE.intW {P : Program} {t : TypeId} {k : IntKind} {lo hi : Int} (h1 : k.min = lo) (h2 : k.max = hi) (hu : P.underlying t = some (.int k)) : TE P t { n : Int // lo ≤ n ∧ n ≤ hi } fun n => [.int k n.val] := fun e w base sp held fuel cs y h => by
  obtain ⟨n, e1, _, e2⟩ := DataW.trod_int hu h
  simp only [Lit.wf, Bool.and_eq_true, decide_eq_true_eq] at e2
  exact ⟨⟨n, by rw [← h1]; exact e2.1, by rw [← h2]; exact e2.2⟩, e1⟩
theorem sl_argW {P : Program} {t e : TypeId} {α : Type} {p : α → Prop} {enc : α → List Value} {z : Nat} (ht : P.underlying t = some (.slice e)) (hte : TE P e { x : α // p x } (fun x => enc x.val)) (hz : P.cellsOf e = z) (hz0 : 0 < z) (hl : ∀ x, (enc x).length = z) {W : World} {r : Reach} {b0 : Nat} {v : Value} (hv : Value.okWide P W r b0 t v)
    {H : Type} {en : TypeId × Value → H} {base : Nat} {sp : Nat → Bool} {held : Bool} {d : DataW H} {ps : List MemPlace} (h : DataW.Trod en P W base sp held t v d ps) :
    ∃ (a : Option Addr) (xs : List α) (c : Nat), v = .slice a xs.length c ∧ xs.length ≤ maxLen ∧ ArgSl (frAll W) a z enc xs ∧ ∀ x ∈ xs, p x := by
  obtain ⟨a, xs, c, h1, h2, h3⟩ := sl_arg ht hte hz hz0 (fun x => hl x.val) hv h
  refine ⟨a, xs.map (·.val), c, by simpa using h1, by simpa using h2, fun h0 => ?_, fun x hx => ?_⟩
  · obtain ⟨b, off, e1, l, ty, fz, e2, e3⟩ := h3 (by simpa using h0)
    refine ⟨b, off, e1, l, ty, fz, e2, ?_⟩
    simpa [List.flatMap_map] using e3
  · obtain ⟨y, _, rfl⟩ := List.mem_map.1 hx
    exact y.property
theorem Want.undef {N : Nat} {G : Env} {S : List HProp} {F : Fr} {ops : Array Oper} {o : Oper} {g d : Nat} {b : Bool} (h : o.guard = .some (g, b)) (hg : (ops[g]?).bind (·.dst) = .some d) (hl : lk G d = .some Go.undef) : Want N G S F ops o false :=
  fun a w s => by
    have := s.slots d _ hl
    show wants ops o a = _
    unfold wants Region.wanted yielded
    simp only [h, hg, Option.bind_some, this]
    rfl
end Slb
