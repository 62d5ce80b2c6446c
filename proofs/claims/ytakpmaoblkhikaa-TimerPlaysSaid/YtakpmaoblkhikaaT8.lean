/- T8: a part of the proof that a law of this package holds for every input; no condition. -/
import Derived.Test.YtakpmaoblkhikaaT7
namespace Slb
open Go Go.Proofs
set_option maxRecDepth 20000
/-! A queue, whole. -/
structure QZ where
  a : Option Addr
  c : Nat
  r : Nat
  es : List Ent
  M : TabS
def QzL (b : Nat) (L : List Due) (z : QZ) : List HProp := [fact (QI z.es z.M L), qB b z.r z.a z.c z.es, arrA z.a z.c z.es, rowsT z.es, mapS z.r z.M]
def QA (b : Nat) (L : List Due) : HProp := ex fun z => stars (QzL b L z)
theorem qa_open {b : Nat} {L : List Due} (p : PH) (h : QA b L p) : ∃ z, stars (QzL b L z) p := h
theorem qa_mk {b r : Nat} {L : List Due} {a : Option Addr} {c : Nat} {es : List Ent} {M : TabS} (hq : QI es M L) (p : PH) (h : stars [qB b r a c es, arrA a c es, rowsT es, mapS r M] p) : QA b L p :=
  ⟨⟨a, c, r, es, M⟩, PH.none, p, PH.none_disj p, (PH.none_union p).symm, ⟨hq, rfl⟩, h⟩
theorem Spec.factT {f : FuncId} {args : Array Value} {F : Fr} {p : Prop} {S : List HProp} {R : Value → List HProp → Prop} (h : p → Spec Try.prog f args S F R) : Spec Try.prog f args (Slb.fact p :: S) F R := fun w s => by
  obtain ⟨hp, s'⟩ := s.fact
  exact h hp w s'
theorem Spec.qa {f : FuncId} {args : Array Value} {F : Fr} {b : Nat} {L : List Due} {R1 : Value → List Due → List HProp → Prop} {R : Value → List HProp → Prop}
    (h : ∀ r a c es M, QI es M L → Spec Try.prog f args [qB b r a c es, arrA a c es, rowsT es, mapS r M] F fun v S => ∃ L2 r2 a2 c2 es2 M2 T, R1 v L2 T ∧ QI es2 M2 L2 ∧ S = [qB b r2 a2 c2 es2, arrA a2 c2 es2, rowsT es2, mapS r2 M2] ++ T)
    (hR : ∀ v L2 T, R1 v L2 T → R v (QA b L2 :: T)) : Spec Try.prog f args [QA b L] F R := by
  refine Spec.open qa_open fun z => ?_
  refine Spec.factT fun hq => ?_
  refine Spec.post (h z.r z.a z.c z.es z.M hq) ?_
  rintro v S w ⟨L2, r2, a2, c2, es2, M2, T, h1, h2, rfl⟩ s
  exact ⟨_, hR v L2 T h1, Sat.pack (m := [qB b r2 a2 c2 es2, arrA a2 c2 es2, rowsT es2, mapS r2 M2]) (r := T) s (qa_mk h2)⟩
theorem qa_nil {b r : Nat} {F : Fr} {w : World} (s : Sat [blk b (TimerQueue.enc ⟨Slc.zero, some r⟩) 63, mapS r []] F w) : Sat [QA b []] F w := by
  refine Sat.single (fun p h => ?_) s
  refine qa_mk (r := r) (a := none) (c := 0) QI.nil p ?_
  obtain ⟨h1, h2, d, e, a1, a2⟩ := h
  refine ⟨h1, h2, d, e, a1, PH.none, h2, PH.none_disj h2, (PH.none_union h2).symm, .inl ⟨rfl, rfl, rfl⟩, PH.none, h2, PH.none_disj h2, (PH.none_union h2).symm, rfl, a2⟩
theorem newA (F : Fr) : Spec Try.prog 10 #[] [] F fun v S => ∃ b, v = fp b ∧ S = [QA b []] :=
  (new0 F).post fun v S w ⟨b, r, h1, h2⟩ s => ⟨_, ⟨b, h1, rfl⟩, by subst h2; exact qa_nil s⟩
section
variable {b : Nat} {L : List Due}
/-- What setting answers, and leaves. -/
def setR (L : List Due) (s : ByteArray) (t : Int) : Int × List Due := if hasD L s = false ∧ 4096 ≤ L.length then (6, L) else (0, setD L s t)
theorem setA (F : Fr) (k : Str) (t : Int) : Spec Try.prog 11 #[fp b, .string k.val, .int .i64 t] [QA b L] F fun v S => v = .int .i64 (setR L k.val t).1 ∧ S = [QA b (setR L k.val t).2] := by
  refine Spec.qa (R1 := fun v L2 T => v = .int .i64 (setR L k.val t).1 ∧ L2 = (setR L k.val t).2 ∧ T = []) (fun r a c es M hq => ?_) fun v L2 T ⟨h1, h2, h3⟩ => ⟨h1, by rw [h2, h3]⟩
  have hlen := hq.length
  cases hl : alook M k with
  | none =>
    have hno := hq.look_none hl
    by_cases hf : 4096 ≤ es.length
    · have e : setR L k.val t = (6, L) := by unfold setR; rw [if_pos ⟨hno, by omega⟩]
      refine (set_full F hq k t hl hf).mono ?_
      rintro v S ⟨rfl, rfl⟩
      rw [e]
      exact ⟨L, r, a, c, es, M, [], ⟨rfl, rfl, rfl⟩, hq, rfl⟩
    · have e : setR L k.val t = (0, setD L k.val t) := by unfold setR; rw [if_neg (by rintro ⟨_, h⟩; omega)]
      refine (set_new F hq k t hl (by omega)).mono ?_
      rintro v S ⟨rfl, a2, c2, es2, c0, h2, rfl⟩
      rw [e]
      exact ⟨_, r, a2, c2, es2, _, [], ⟨rfl, rfl, rfl⟩, h2, rfl⟩
  | some c0 =>
    obtain ⟨i, e0, hi, rfl, hnm, hp, hmem⟩ := hq.look hl
    have e : setR L k.val t = (0, setD L k.val t) := by
      unfold setR
      rw [if_neg (by rintro ⟨h, _⟩; rw [← hnm, has_of hmem] at h; cases h)]
    refine (set_old F hq k t hi hnm hl).mono ?_
    rintro v S ⟨rfl, es2, h2, rfl⟩
    rw [e]
    exact ⟨_, r, a, c, es2, M, [], ⟨rfl, rfl, rfl⟩, h2, rfl⟩
theorem cancelA (F : Fr) {an : Option Addr} {cn : Nat} {ss : List ByteArray} (hss : ss.length ≤ 1000000) (ha : ArgSl F an 1 (fun s => [Value.string s]) ss) (hsz : ∀ s ∈ ss, s.size ≤ maxLen) : Spec Try.prog 14 #[fp b, .slice an ss.length cn] [QA b L] F fun v S => v = .int .i64 (cancelF L ss).2 ∧ S = [QA b (cancelF L ss).1] :=
  Spec.qa (R1 := fun v L2 T => v = .int .i64 (cancelF L ss).2 ∧ L2 = (cancelF L ss).1 ∧ T = []) (fun r a c es M hq => (cancel0 F hq hss ha hsz).mono fun v S ⟨h1, es2, M2, h2, h3⟩ => ⟨_, r, a, c, es2, M2, [], ⟨h1, rfl, rfl⟩, h2, h3⟩) fun v L2 T ⟨h1, h2, h3⟩ => ⟨h1, by rw [h2, h3]⟩
theorem atA (F : Fr) (k : Str) : Spec Try.prog 15 #[fp b, .string k.val] [QA b L] F fun v S => v = .tuple #[.int .i64 ((atD L k.val).getD 0), .bool (atD L k.val).isSome] ∧ S = [QA b L] := by
  refine Spec.qa (R1 := fun v L2 T => v = .tuple #[.int .i64 ((atD L k.val).getD 0), .bool (atD L k.val).isSome] ∧ L2 = L ∧ T = []) (fun r a c es M hq => ?_) fun v L2 T ⟨h1, h2, h3⟩ => ⟨h1, by rw [h2, h3]⟩
  refine (Spec.qread (R := fun v T => v = .tuple #[.int .i64 ((atD L k.val).getD 0), .bool (atD L k.val).isSome] ∧ T = []) fun F' hle hf => ?_).mono fun v S ⟨T, ⟨h1, h2⟩, h3⟩ => ⟨L, r, a, c, es, M, [], ⟨h1, rfl, rfl⟩, hq, by rw [h3, h2]⟩
  cases hl : alook M k with
  | none =>
    refine (at_none0 F' hf k hl).mono ?_
    rintro v S ⟨rfl, rfl⟩
    rw [at_none (hq.look_none hl)]
    exact ⟨[], ⟨rfl, rfl⟩, rfl⟩
  | some c0 =>
    obtain ⟨i, e0, hi, rfl, hnm, hp, hmem⟩ := hq.look hl
    refine (at_some0 F' hf k (List.mem_of_getElem? hi) hl).mono ?_
    rintro v S ⟨rfl, rfl⟩
    rw [← hnm, at_some hq.nodup hmem]
    exact ⟨[], ⟨rfl, rfl⟩, rfl⟩
theorem lenA (F : Fr) : Spec Try.prog 13 #[fp b] [QA b L] F fun v S => v = .int .i64 L.length ∧ S = [QA b L] := by
  refine Spec.qa (R1 := fun v L2 T => v = .int .i64 L.length ∧ L2 = L ∧ T = []) (fun r a c es M hq => ?_) fun v L2 T ⟨h1, h2, h3⟩ => ⟨h1, by rw [h2, h3]⟩
  refine (Spec.qread (R := fun v T => v = .int .i64 L.length ∧ T = []) fun F' hle hf => ?_).mono fun v S ⟨T, ⟨h1, h2⟩, h3⟩ => ⟨L, r, a, c, es, M, [], ⟨h1, rfl, rfl⟩, hq, by rw [h3, h2]⟩
  refine Spec.post (Spec.lend (m := []) (r := [mapS r M]) fun F2 hle2 _ => qlen_spec F2 (hf.mono hle2)) ?_
  rintro v S1 w ⟨S2, ⟨rfl, rfl⟩, rfl⟩ s
  exact ⟨_, ⟨[], ⟨by rw [bs_len, hq.length], rfl⟩, rfl⟩, s⟩
theorem nextA (F : Fr) : Spec Try.prog 25 #[fp b] [QA b L] F fun v S => v = .tuple #[.agg (Due.enc (L.head?.getD Due.zero)).toArray, .bool L.head?.isSome] ∧ S = [QA b L] := by
  refine Spec.qa (R1 := fun v L2 T => v = .tuple #[.agg (Due.enc (L.head?.getD Due.zero)).toArray, .bool L.head?.isSome] ∧ L2 = L ∧ T = []) (fun r a c es M hq => ?_) fun v L2 T ⟨h1, h2, h3⟩ => ⟨h1, by rw [h2, h3]⟩
  refine (Spec.qread (R := fun v T => v = .tuple #[.agg (Due.enc (L.head?.getD Due.zero)).toArray, .bool L.head?.isSome] ∧ T = []) fun F' hle hf => ?_).mono fun v S ⟨T, ⟨h1, h2⟩, h3⟩ => ⟨L, r, a, c, es, M, [], ⟨h1, rfl, rfl⟩, hq, by rw [h3, h2]⟩
  cases es with
  | nil =>
    have hL : L = [] := List.eq_nil_of_length_eq_zero hq.length
    subst hL
    refine Spec.post (Spec.lend (m := []) (r := [mapS r M]) fun F2 hle2 _ => next_none F2 (hf.mono hle2)) ?_
    rintro v S1 w ⟨S2, ⟨rfl, rfl⟩, rfl⟩ s
    exact ⟨_, ⟨[], ⟨rfl, rfl⟩, rfl⟩, s⟩
  | cons e es =>
    obtain ⟨L2, rfl⟩ := hq.head (e := e) rfl
    refine Spec.post (Spec.lend (m := []) (r := [mapS r M]) fun F2 hle2 _ => next_some F2 (hf.mono hle2) (e := e) rfl) ?_
    rintro v S1 w ⟨S2, ⟨rfl, rfl⟩, rfl⟩ s
    exact ⟨_, ⟨[], ⟨rfl, rfl⟩, rfl⟩, s⟩
theorem listA (F : Fr) : Spec Try.prog 17 #[fp b] [QA b L] F fun v S => S = [QA b L, slA 40 2 Due.enc v L] := by
  refine Spec.qa (R1 := fun v L2 T => L2 = L ∧ T = [slA 40 2 Due.enc v L]) (fun r a c es M hq => ?_) fun v L2 T ⟨h2, h3⟩ => by rw [h2, h3]
  refine (Spec.qread (R := fun v T => T = [slA 40 2 Due.enc v L]) fun F' hle hf => ?_).mono fun v S ⟨T, h2, h3⟩ => ⟨L, r, a, c, es, M, T, ⟨rfl, h2⟩, hq, h3⟩
  refine Spec.post (Spec.lend (m := []) (r := [mapS r M]) fun F2 hle2 _ => list0 F2 (hf.mono hle2) (by have := hq.keep; omega)) ?_
  rintro v S1 w ⟨S2, ⟨ys, h1, h2, rfl⟩, rfl⟩ s
  have hy : ys = L := due_uniq hq.sort h2 (h1.trans hq.perm.symm)
  subst hy
  exact ⟨_, ⟨_, rfl, rfl⟩, s.perm (List.Perm.swap _ _ _)⟩
/-- What is known of a queue's list. -/
theorem qa_good (F : Fr) {w : World} {S : List HProp} (s : Sat (QA b L :: S) F w) : L.Pairwise (fun a b => cmpDue a b < 0) ∧ (L.map (·.name)).Nodup ∧ L.length ≤ 4096 ∧ ∀ d ∈ L, d.name.size ≤ maxLen := by
  obtain ⟨p, ⟨z, h⟩, back⟩ := s.unpack
  have s1 : Sat (fact (QI z.es z.M L) :: ([qB b z.r z.a z.c z.es, arrA z.a z.c z.es, rowsT z.es, mapS z.r z.M] ++ S)) F w := back (QzL b L z) h
  have hq := s1.fact.1
  exact ⟨hq.sort, hq.nodup, hq.len, fun d hd => hq.size hd⟩
end
end Slb
