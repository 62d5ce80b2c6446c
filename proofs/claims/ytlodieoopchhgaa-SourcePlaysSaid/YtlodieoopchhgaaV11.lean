/- V11: a part of the proof that a law of this package holds for every input; no condition. -/
import Derived.Test.YtlodieoopchhgaaV10
namespace Slb
open Go Go.Proofs
set_option maxRecDepth 20000
abbrev OrdS (M : TabM) (L : List Source) : Prop := InOrder keyS cmpSource M L
/-- What is asked of a source. -/
def GoodS (t : Int) (x : Source) : Prop := 0 ≤ x.at_ ∧ x.at_ ≤ t ∧ x.d.WF
theorem GoodS.mono {t u : Int} {x : Source} (h : GoodS t x) (htu : t ≤ u) : GoodS u x := ⟨h.1, by have := h.2.1; omega, h.2.2⟩
theorem keepD_wf {a d : Distance} (ha : a.WF) (hd : d.WF) : (keepD (some a) d).WF := by
  simp only [keepD]; split <;> assumption
theorem keepT2 (F : Fr) {b : Nat} {most : Int} {M : TabM} (now : Int) (p : Pair) (id : Bs 8) (d : Distance) :
    Spec Try.prog 11 #[.pointer (some ⟨b, 0, none⟩), .int .i64 now, .agg (Pair.enc p).toArray, .agg (Bs.enc id).toArray, .agg (Distance.enc d).toArray] [Tab b most M] F
    fun v S => ∃ e M2, keepF most M now p id d = (e, M2) ∧ v = .int .i64 e ∧ S = [Tab b most M2] :=
  (keepT F now p id d).mono fun v S ⟨h1, h2⟩ => ⟨_, _, rfl, h1, h2⟩
theorem keep_ord {most : Int} {M M2 : TabM} {L L2 : List Source} {now : Int} {p : Pair} {id : Bs 8} {d : Distance} {e e2 : Int} (h : OrdS M L) (ha : keepF most M now p id d = (e, M2)) (hr : RKeep most L now p id d e2 L2) : e = e2 ∧ OrdS M2 L2 := by
  rcases hr with ⟨h1, rfl, rfl⟩ | ⟨h1, ⟨i, x, hi, hk, rfl, rfl⟩ | ⟨hno, ⟨h2, rfl, rfl⟩ | ⟨h2, rfl, j, hj, hb, ht, rfl⟩⟩⟩
  · simp only [keepF, if_pos h1] at ha
    cases ha; exact ⟨rfl, h⟩
  · have hl : alook M ⟨p, id⟩ = some x := h.look_iff.2 ⟨List.mem_of_getElem? hi, hk⟩
    simp only [keepF, if_neg h1, hl] at ha
    cases ha
    have hx : ({ x with d := keepD (some x.d) d, at_ := now } : Source) = ⟨p, id, keepD (some x.d) d, now⟩ := by
      obtain ⟨a, b, c, t⟩ := x
      cases hk; rfl
    rw [hx]
    exact ⟨rfl, h.set keyCmpS rfl hi hk⟩
  · have hl : alook M ⟨p, id⟩ = none := h.look_none.2 hno
    rw [h.length] at h2
    simp only [keepF, if_neg h1, hl, if_pos h2] at ha
    cases ha; exact ⟨rfl, h⟩
  · have hl : alook M ⟨p, id⟩ = none := h.look_none.2 hno
    rw [h.length] at h2
    simp only [keepF, if_neg h1, hl, if_neg h2] at ha
    cases ha
    exact ⟨rfl, h.ins rfl hl hb fun x hx => (keyCmpS.neg _ _).2 (ht x hx)⟩
theorem keep_good {most : Int} {L L2 : List Source} {now : Int} {p : Pair} {id : Bs 8} {d : Distance} {e : Int} (hr : RKeep most L now p id d e L2) (hn : 0 ≤ now) (hd : d.WF) (h : ∀ x ∈ L, GoodS now x) : (∀ x ∈ L2, GoodS now x) ∧ L2.length ≤ L.length + 1 := by
  rcases hr with ⟨h1, rfl, rfl⟩ | ⟨h1, ⟨i, x, hi, hk, rfl, rfl⟩ | ⟨hno, ⟨h2, rfl, rfl⟩ | ⟨h2, rfl, j, hj, hb, ht, rfl⟩⟩⟩
  · exact ⟨h, by omega⟩
  · refine ⟨fun y hy => ?_, by simp⟩
    rcases List.mem_or_eq_of_mem_set hy with hy | rfl
    · exact h y hy
    · exact ⟨hn, Int.le_refl _, keepD_wf (h x (List.mem_of_getElem? hi)).2.2 hd⟩
  · exact ⟨h, by omega⟩
  · refine ⟨fun y hy => ?_, by simp; omega⟩
    rcases List.mem_append.1 hy with hy | hy
    · exact h y (List.mem_of_mem_take hy)
    · rcases List.mem_cons.1 hy with rfl | hy
      · exact ⟨hn, Int.le_refl _, hd⟩
      · exact h y (List.mem_of_mem_drop hy)
theorem tickT2 (F : Fr) {b : Nat} {most : Int} {M : TabM} {L : List Source} (h : OrdS M L) (hM : M.length ≤ 1000000) (now : Int) (hn0 : 0 ≤ now) (hn1 : now ≤ 1000000000000) (hg : ∀ x ∈ L, GoodS now x) :
    Spec Try.prog 12 #[.pointer (some ⟨b, 0, none⟩), .int .i64 now] [Tab b most M] F
    fun v S => ∃ M2, OrdS M2 (L.filter fun s => !oldS now s) ∧ S = [Tab b most M2, slA 45 45 Source.enc v (L.filter (oldS now))] :=
  (tickT F hM now hn0 (by omega) h.keyed (fun e he => by have := hg e.2 (h.perm.symm.subset (List.mem_map.2 ⟨e, he, rfl⟩)); exact ⟨this.1, by have := this.2.1; omega⟩)).mono fun v S ⟨ys, h1, h2, h3⟩ => by
    obtain rfl := h.uniq keyCmpS h1 h2
    exact ⟨_, h.filter fun s => !oldS now s, h3⟩
theorem touch_ord {M : TabM} {L L2 : List Source} {now : Int} {p : Pair} {id : Bs 8} {n : Int} (h : OrdS M L) (hr : RTouch L now p id n L2) : touchN M ⟨p, id⟩ 2 = 2 * n ∧ OrdS (touchF M now ⟨p, id⟩) L2 := by
  rcases hr with ⟨hno, rfl, rfl⟩ | ⟨i, x, hi, hk, rfl, rfl⟩
  · have hl : alook M ⟨p, id⟩ = none := h.look_none.2 hno
    simp only [touchN, touchF, hl]
    exact ⟨rfl, h⟩
  · have hl : alook M ⟨p, id⟩ = some x := h.look_iff.2 ⟨List.mem_of_getElem? hi, hk⟩
    simp only [touchN, touchF, hl]
    exact ⟨rfl, h.set keyCmpS hk hi hk⟩
theorem touch_good {L L2 : List Source} {now : Int} {p : Pair} {id : Bs 8} {n : Int} (hr : RTouch L now p id n L2) (hn : 0 ≤ now) (h : ∀ x ∈ L, GoodS now x) : (∀ x ∈ L2, GoodS now x) ∧ L2.length ≤ L.length ∧ 0 ≤ n ∧ n ≤ 1 := by
  rcases hr with ⟨_, rfl, rfl⟩ | ⟨i, x, hi, _, rfl, rfl⟩
  · exact ⟨h, by omega, by omega, by omega⟩
  · refine ⟨fun y hy => ?_, by simp, by omega, by omega⟩
    rcases List.mem_or_eq_of_mem_set hy with hy | rfl
    · exact h y hy
    · exact ⟨hn, Int.le_refl _, (h x (List.mem_of_getElem? hi)).2.2⟩
theorem listT2 (F : Fr) {b : Nat} {most : Int} {M : TabM} {L : List Source} (h : OrdS M L) (hM : M.length ≤ 1000000) : Spec Try.prog 15 #[.pointer (some ⟨b, 0, none⟩)] [Tab b most M] F
    fun v S => S = [Tab b most M, slA 45 45 Source.enc v L] :=
  (listT F hM).mono fun v S ⟨ys, h1, h2, h3⟩ => by
    obtain rfl := h.uniq keyCmpS h1 h2
    exact h3
theorem nextT2 (F : Fr) {b : Nat} {most : Int} {M : TabM} {L : List Source} (h : OrdS M L) (hM : M.length ≤ 1000000) {t : Int} (ht : t ≤ 1000000000000) (hg : ∀ x ∈ L, GoodS t x) : Spec Try.prog 16 #[.pointer (some ⟨b, 0, none⟩)] [Tab b most M] F
    fun v S => ∃ n ok, v = .tuple #[.int .i64 n, .bool ok] ∧ NextIs L n ok ∧ S = [Tab b most M] := by
  refine Spec.mono (tab_spec (Q := fun v M' B => ∃ n ok, v = .tuple #[.int .i64 n, .bool ok] ∧ NextIs L n ok ∧ M' = M ∧ B = []) fun F' r E hf hv hnd hle => ?_) ?_
  · subst hv
    refine (nextQ F' hf (by rw [lenE] at hM; exact hM) (fun e he => by
      have := hg e.2.2 (h.perm.symm.subset (List.mem_map.2 ⟨(e.1, e.2.2), List.mem_map.2 ⟨e, he, rfl⟩, rfl⟩)); exact ⟨this.1, by have := this.2.1; omega⟩)).mono ?_
    rintro v S ⟨ys, h1, h2, n, ok, h3, h4, rfl⟩
    rw [valsS] at h1
    obtain rfl := h.uniq keyCmpS h1 h2
    exact ⟨E, [], [], ⟨n, ok, h3, h4, rfl, rfl⟩, perm_same⟩
  · rintro v S ⟨M', B, ⟨n, ok, h1, h2, rfl, rfl⟩, rfl⟩; exact ⟨n, ok, h1, h2, rfl⟩
theorem feas_ord {M : TabM} {L : List Source} {p : Pair} {id : Bs 8} {d : Distance} {r : Bool} (h : OrdS M L) (hr : RFeas L p id d r) : feasB d ((alook M ⟨p, id⟩).map (·.d)) = r := by
  rcases hr with ⟨hno, rfl⟩ | ⟨x, hx, hk, rfl⟩
  · rw [h.look_none.2 hno]; rfl
  · rw [h.look_iff.2 ⟨hx, hk⟩]; rfl
end Slb
