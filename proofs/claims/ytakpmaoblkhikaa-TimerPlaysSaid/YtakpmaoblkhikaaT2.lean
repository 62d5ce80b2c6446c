/- T2: a part of the proof that a law of this package holds for every input; no condition. -/
import Derived.Test.YtakpmaoblkhikaaT1
namespace Slb
open Go Go.Proofs
set_option maxRecDepth 20000
/-! The order within the heap. -/
def par (c : Nat) : Nat := (c - 1) / 2
def leD (a b : Due) : Prop := ¬ cmpDue b a < 0
theorem leD.trans {a b c : Due} (h1 : leD a b) (h2 : leD b c) : leD a c := by
  unfold leD at *
  intro h
  have e := totD.swo.ntrans c b a (by simpa [Go.Proofs.ltOf] using h2) (by simpa [Go.Proofs.ltOf] using h1)
  simp only [Go.Proofs.ltOf, decide_eq_false_iff_not] at e
  exact e h
theorem leD.of_lt {a b : Due} (h : cmpDue a b < 0) : leD a b := fun h2 => by
  have := (totD.neg a b).1 h
  omega
def fD (es : List Ent) (i : Nat) : Due := ((es[i]?).map (·.2.due)).getD Due.zero
theorem fD_get {es : List Ent} {i : Nat} {x : Ent} (h : es[i]? = some x) : fD es i = x.2.due := by unfold fD; rw [h]; rfl
def HeapO (n : Nat) (f : Nat → Due) : Prop := ∀ c, 0 < c → c < n → leD (f (par c)) (f c)
def UpP (n : Nat) (f : Nat → Due) (j : Nat) : Prop := (∀ c, 0 < c → c < n → c ≠ j → leD (f (par c)) (f c)) ∧ (∀ c, 0 < c → c < n → par c = j → 0 < j → leD (f (par j)) (f c))
def DnP (n : Nat) (f : Nat → Due) (i : Nat) (b : Prop) : Prop := (∀ c, 0 < c → c < n → par c ≠ i → (c ≠ i ∨ b) → leD (f (par c)) (f c)) ∧ (∀ c, 0 < c → c < n → par c = i → 0 < i → leD (f (par i)) (f c))
theorem par_lt {c : Nat} (h : 0 < c) : par c < c := by unfold par; omega
theorem swap_at {es : List Ent} {i k : Nat} {x y : Ent} (hik : i ≠ k) (hi : es[i]? = some x) (hk : es[k]? = some y) : (swapE es i k x y)[i]? = some (y.1, { y.2 with place := (i : Int) }) ∧ (swapE es i k x y)[k]? = some (x.1, { x.2 with place := (k : Int) }) ∧ ∀ m, m ≠ i → m ≠ k → (swapE es i k x y)[m]? = es[m]? := by
  have h1 := (List.getElem?_eq_some_iff.1 hi).1
  have h2 := (List.getElem?_eq_some_iff.1 hk).1
  unfold swapE
  refine ⟨?_, ?_, fun m h3 h4 => ?_⟩
  · rw [List.getElem?_set_ne (Ne.symm hik), List.getElem?_set_self h1]
  · rw [List.getElem?_set_self (by rw [List.length_set]; exact h2)]
  · rw [List.getElem?_set_ne (Ne.symm h4), List.getElem?_set_ne (Ne.symm h3)]
theorem swap_f {es : List Ent} {i k : Nat} {x y : Ent} (hik : i ≠ k) (hi : es[i]? = some x) (hk : es[k]? = some y) : fD (swapE es i k x y) i = fD es k ∧ fD (swapE es i k x y) k = fD es i ∧ ∀ m, m ≠ i → m ≠ k → fD (swapE es i k x y) m = fD es m := by
  obtain ⟨a, b, c⟩ := swap_at hik hi hk
  refine ⟨by rw [fD_get a, fD_get hk], by rw [fD_get b, fD_get hi], fun m h1 h2 => by unfold fD; rw [c m h1 h2]⟩
theorem up_step {n j : Nat} {f f' : Nat → Due} (h : UpP n f j) (hj : j < n) (hij : par j ≠ j) (hl : cmpDue (f j) (f (par j)) < 0) (h1 : f' (par j) = f j) (h2 : f' j = f (par j)) (h3 : ∀ m, m ≠ par j → m ≠ j → f' m = f m) : UpP n f' (par j) := by
  have h0 : 0 < j := by unfold par at hij; omega
  have hpj := par_lt h0
  constructor
  · intro c c0 cn hc
    by_cases e : c = j
    · subst e; rw [h1, h2]; exact leD.of_lt hl
    · by_cases e2 : par c = j
      · rw [e2, h2, h3 c hc e]; exact h.2 c c0 cn e2 h0
      · by_cases e3 : par c = par j
        · rw [e3, h1, h3 c hc e]
          have := h.1 c c0 cn e
          rw [e3] at this
          exact (leD.of_lt hl).trans this
        · rw [h3 (par c) e3 e2, h3 c hc e]; exact h.1 c c0 cn e
  · intro c c0 cn hc hp
    have hpp := par_lt hp
    rw [h3 (par (par j)) (by omega) (by omega)]
    have hq := h.1 (par j) hp (by omega) (by omega)
    by_cases e : c = j
    · subst e; rw [h2]; exact hq
    · have hcp := par_lt c0
      rw [h3 c (by omega) e]
      have := h.1 c c0 cn e
      rw [hc] at this
      exact hq.trans this
theorem up_end {n j : Nat} {f : Nat → Due} (h : UpP n f j) (hl : par j = j ∨ ¬ cmpDue (f j) (f (par j)) < 0) : HeapO n f := by
  intro c c0 cn
  by_cases e : c = j
  · subst e
    rcases hl with hl | hl
    · have := par_lt c0; omega
    · exact hl
  · exact h.1 c c0 cn e
theorem dn_step {n i j : Nat} {f f' : Nat → Due} {b : Prop} (h : DnP n f i b) (hj : 0 < j) (hjn : j < n) (hp : par j = i) (hmin : ∀ s, 0 < s → s < n → par s = i → leD (f j) (f s)) (hl : cmpDue (f j) (f i) < 0) (h1 : f' i = f j) (h2 : f' j = f i) (h3 : ∀ m, m ≠ i → m ≠ j → f' m = f m) {b' : Prop} : DnP n f' j b' := by
  have hij := par_lt hj
  rw [hp] at hij
  constructor
  · intro c c0 cn hc _
    by_cases e : c = j
    · subst e; rw [hp, h1, h2]; exact leD.of_lt hl
    · by_cases e2 : c = i
      · subst e2
        have hpc := par_lt c0
        rw [h1, h3 (par c) (by omega) (by omega)]
        have := h.2 j hj hjn hp c0
        exact this
      · by_cases e3 : par c = i
        · rw [e3, h1, h3 c e2 e]; exact hmin c c0 cn e3
        · rw [h3 (par c) e3 hc, h3 c e2 e]; exact h.1 c c0 cn e3 (.inl e2)
  · intro c c0 cn hc _
    have hcp := par_lt c0
    rw [hp, h1, h3 c (by omega) (by omega)]
    have := h.1 c c0 cn (by omega) (.inl (by omega))
    rw [hc] at this
    exact this
theorem dn_end {n i : Nat} {f : Nat → Due} {b : Prop} (h : DnP n f i b) (hc : ∀ c, 0 < c → c < n → par c = i → leD (f i) (f c)) : (b → HeapO n f) ∧ UpP n f i := by
  refine ⟨fun hb c c0 cn => ?_, fun c c0 cn e => ?_, fun c c0 cn e h0 => h.2 c c0 cn e h0⟩
  · by_cases e : par c = i
    · rw [e]; exact hc c c0 cn e
    · exact h.1 c c0 cn e (.inr hb)
  · by_cases e2 : par c = i
    · rw [e2]; exact hc c c0 cn e2
    · exact h.1 c c0 cn e2 (.inl e)
/-! What swapping keeps. -/
def PlacedE (es : List Ent) : Prop := ∀ (i : Nat) (x : Ent), es[i]? = some x → x.2.place = (i : Int)
def coreE (e : Ent) : Nat × Due := (e.1, e.2.due)
structure KeepE (n : Nat) (es0 es : List Ent) : Prop where
  perm : (es.map coreE).Perm (es0.map coreE)
  placed : PlacedE es
  tail : ∀ k, n ≤ k → es[k]? = es0[k]?
theorem KeepE.len {n : Nat} {es0 es : List Ent} (h : KeepE n es0 es) : es.length = es0.length := by simpa using h.perm.length_eq
theorem KeepE.refl {n : Nat} {es : List Ent} (h : PlacedE es) : KeepE n es es := ⟨List.Perm.refl _, h, fun _ _ => rfl⟩
theorem KeepE.trans {n : Nat} {e0 e1 e2 : List Ent} (h : KeepE n e0 e1) (g : KeepE n e1 e2) : KeepE n e0 e2 := ⟨g.perm.trans h.perm, g.placed, fun k hk => (g.tail k hk).trans (h.tail k hk)⟩
theorem swap_core {es : List Ent} {i k : Nat} {x y : Ent} (hik : i ≠ k) (hi : es[i]? = some x) (hk : es[k]? = some y) : ((swapE es i k x y).map coreE).Perm (es.map coreE) := by
  obtain ⟨rest, hp1, hp2⟩ := two_out hik hi hk
  have := (hp2 (x.1, { x.2 with place := (k : Int) }) (y.1, { y.2 with place := (i : Int) })).map coreE
  exact this.trans (hp1.map coreE).symm
theorem swap_placed {es : List Ent} {i k : Nat} {x y : Ent} (h : PlacedE es) (hik : i ≠ k) (hi : es[i]? = some x) (hk : es[k]? = some y) : PlacedE (swapE es i k x y) := by
  obtain ⟨a, b, c⟩ := swap_at hik hi hk
  intro m z hz
  by_cases e1 : m = i
  · subst e1; rw [a] at hz; cases hz; rfl
  · by_cases e2 : m = k
    · subst e2; rw [b] at hz; cases hz; rfl
    · rw [c m e1 e2] at hz; exact h m z hz
theorem KeepE.swap {n : Nat} {es0 es : List Ent} {i k : Nat} {x y : Ent} (h : KeepE n es0 es) (hik : i ≠ k) (hi : es[i]? = some x) (hk : es[k]? = some y) (hin : i < n) (hkn : k < n) : KeepE n es0 (swapE es i k x y) :=
  ⟨(swap_core hik hi hk).trans h.perm, swap_placed h.placed hik hi hk, fun m hm => ((swap_at hik hi hk).2.2 m (by omega) (by omega)).trans (h.tail m hm)⟩
theorem swap_len (es : List Ent) (i k : Nat) (x y : Ent) : (bsOf (swapE es i k x y)).length = (bsOf es).length := by rw [swap_bs, List.length_set, List.length_set]
theorem bs_len (es : List Ent) : (bsOf es).length = es.length := List.length_map _
theorem parI {j : Nat} (h : j ≤ 1000000) : IntKind.i64.wrap (Int.tdiv ((j : Int) - 1) 2) = ((par j : Nat) : Int) := by
  unfold par
  cases j with
  | zero => decide
  | succ j =>
    rw [show ((j + 1 : Nat) : Int) - 1 = (j : Int) by omega, Int.tdiv_eq_ediv_of_nonneg (by omega), wrap_i64 (by omega) (by omega)]
    omega
/-! Methods behind an interface. -/
@[reducible] def qB (b r : Nat) (a : Option Addr) (c : Nat) (es : List Ent) : HProp := blk b (TimerQueue.enc ⟨⟨a, (bsOf es).length, c⟩, some r⟩) 63
def MethAt (t : TypeId) (name : String) (f : FuncId) (p : Bool) : Prop := ((Try.prog.info? t).bind fun i => (i.methods.find? (·.name == name)).map fun m => (m.path.isEmpty, m.func)) = some (true, some (f, p))
theorem meth_of {t : TypeId} {name : String} {f : FuncId} {p : Bool} (h : MethAt t name f p) : ∃ i m, Try.prog.info? t = some i ∧ i.methods.find? (·.name == name) = some m ∧ m.path = #[] ∧ m.func = some (f, p) := by
  unfold MethAt at h
  cases hi : Try.prog.info? t with
  | none => rw [hi] at h; cases h
  | some i =>
    rw [hi] at h
    simp only [Option.bind_some] at h
    cases hm : i.methods.find? (·.name == name) with
    | none => rw [hm] at h; cases h
    | some m =>
      rw [hm] at h
      simp only [Option.map_some, Option.some.injEq, Prod.mk.injEq] at h
      exact ⟨i, m, rfl, hm, by simpa using h.1, h.2⟩
theorem methV {name : String} {f : FuncId} (h : MethAt 69 name f false) {S : List HProp} {F : Fr} {b r n c : Nat} {a : Option Addr} (hm : blk b (TimerQueue.enc ⟨⟨a, n, c⟩, some r⟩) 63 ∈ S) (w : World) (s : Sat S F w) :
    (method (Try.prog.types.size + Made.depth) 69 (.pointer (some ⟨b, 0, none⟩)) name).run Try.prog w = .ok (f, .slice a n c) w := by
  obtain ⟨i, m, h1, h2, h3, h4⟩ := meth_of h
  exact run_method_val (k := Try.prog.types.size + 99) h1 h2 h3 h4 Try.underlying69 (run_loadSca g61 (s.mem hm) (TimerQueue.sub_row _))
theorem methP {name : String} {f : FuncId} (h : MethAt 69 name f true) {S : List HProp} {F : Fr} {b : Nat} (w : World) (_s : Sat S F w) :
    (method (Try.prog.types.size + Made.depth) 69 (.pointer (some ⟨b, 0, none⟩)) name).run Try.prog w = .ok (f, .pointer (some ⟨b, 0, none⟩)) w := by
  obtain ⟨i, m, h1, h2, h3, h4⟩ := meth_of h
  exact run_method_ptr (k := Try.prog.types.size + 99) h1 h2 h3 h4 Try.underlying69
theorem mLen : MethAt 69 "Len" 74 false := by unfold MethAt; kernel_rfl
theorem mLess : MethAt 69 "Less" 75 false := by unfold MethAt; kernel_rfl
theorem mSwap : MethAt 69 "Swap" 76 false := by unfold MethAt; kernel_rfl
theorem mPop : MethAt 69 "Pop" 77 true := by unfold MethAt; kernel_rfl
theorem mPush : MethAt 69 "Push" 78 true := by unfold MethAt; kernel_rfl
end Slb
