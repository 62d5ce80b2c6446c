/- Q17: a part of the proof that a law of this package holds for every input; no condition. -/
import Derived.Test.YtgelmgaackblcaaQ16
namespace Slb
open Go Go.Proofs
set_option maxRecDepth 20000
abbrev OrdQ (M : TabQ) (L : List Pending) : Prop := InOrder keyQ cmpPending M L
/-- What is asked of a request. -/
def GoodQ (t : Int) (x : Pending) : Prop := 0 ≤ x.at_ ∧ x.at_ ≤ t + 32000 ∧ 1 ≤ x.tries ∧ x.tries ≤ 4 ∧ 0 ≤ x.seqno ∧ x.seqno ≤ 65535
theorem GoodQ.mono {t u : Int} {x : Pending} (h : GoodQ t x) (htu : t ≤ u) : GoodQ u x := by
  unfold GoodQ at *; omega
theorem GoodQ.ok {t : Int} {x : Pending} (h : GoodQ t x) (ht : t ≤ 1000000000000) : OkQ x := by
  unfold GoodQ at h; unfold OkQ; omega
theorem askT2 (F : Fr) {b : Nat} {most : Int} {M : TabQ} (now : Int) (hn0 : 0 ≤ now) (hn1 : now ≤ 2305843009213693952) (p : Pair) (id : Bs 8) (q : Int) :
    Spec Try.prog 11 #[.pointer (some ⟨b, 0, none⟩), .int .i64 now, .agg (Pair.enc p).toArray, .agg (Bs.enc id).toArray, .int .u16 q] [QTab b most M] F
    fun v S => ∃ ok e M2, askF most M now p id q = (ok, e, M2) ∧ v = .tuple #[.bool ok, .int .i64 e] ∧ S = [QTab b most M2] :=
  (askT F now hn0 hn1 p id q).mono fun v S ⟨h1, h2⟩ => ⟨_, _, _, rfl, h1, h2⟩
theorem ask_ord {most : Int} {M M2 : TabQ} {L L2 : List Pending} {now : Int} {p : Pair} {id : Bs 8} {q : Int} {ok ok2 : Bool} {e e2 : Int} (h : OrdQ M L) (ha : askF most M now p id q = (ok, e, M2)) (hr : RAsk most L now p id q ok2 e2 L2) : ok = ok2 ∧ e = e2 ∧ OrdQ M2 L2 := by
  rcases hr with ⟨i, x, hi, hk, h1⟩ | ⟨hno, h1⟩
  · have hl : alook M ⟨p, id⟩ = some x := h.look_iff.2 ⟨List.mem_of_getElem? hi, hk⟩
    rcases h1 with ⟨h2, rfl, rfl, rfl⟩ | ⟨h2, rfl, rfl, rfl⟩
    · simp only [askF, hl, h2] at ha
      cases ha; exact ⟨rfl, rfl, h⟩
    · simp only [askF, hl, h2, if_true] at ha
      cases ha
      exact ⟨rfl, rfl, h.set keyCmpQ rfl hi hk⟩
  · have hl : alook M ⟨p, id⟩ = none := h.look_none.2 hno
    rcases h1 with ⟨h2, rfl, rfl, rfl⟩ | ⟨h2, rfl, rfl, j, hj, hb, ht, rfl⟩
    · rw [h.length] at h2
      simp only [askF, hl, if_pos h2] at ha
      cases ha; exact ⟨rfl, rfl, h⟩
    · rw [h.length] at h2
      simp only [askF, hl, if_neg h2] at ha
      cases ha
      exact ⟨rfl, rfl, h.ins rfl hl hb fun x hx => (keyCmpQ.neg _ _).2 (ht x hx)⟩
theorem ask_good {most : Int} {L L2 : List Pending} {now : Int} {p : Pair} {id : Bs 8} {q : Int} {ok : Bool} {e : Int} (hr : RAsk most L now p id q ok e L2) (hn : 0 ≤ now) (hq : 0 ≤ q ∧ q ≤ 65535) (h : ∀ x ∈ L, GoodQ now x) : (∀ x ∈ L2, GoodQ now x) ∧ L2.length ≤ L.length + 1 := by
  have hnew : GoodQ now ⟨p, id, q, 1, now + 2000⟩ := by unfold GoodQ; simp only; omega
  rcases hr with ⟨i, x, hi, hk, ⟨_, _, _, rfl⟩ | ⟨_, _, _, rfl⟩⟩ | ⟨_, ⟨_, _, _, rfl⟩ | ⟨_, _, _, j, hj, _, _, rfl⟩⟩
  · exact ⟨h, by omega⟩
  · refine ⟨fun y hy => ?_, by simp⟩
    rcases List.mem_or_eq_of_mem_set hy with hy | rfl
    · exact h y hy
    · exact hnew
  · exact ⟨h, by omega⟩
  · refine ⟨fun y hy => ?_, by simp; omega⟩
    rcases List.mem_append.1 hy with hy | hy
    · exact h y (List.mem_of_mem_take hy)
    · rcases List.mem_cons.1 hy with rfl | hy
      · exact hnew
      · exact h y (List.mem_of_mem_drop hy)
theorem metT2 (F : Fr) {b : Nat} {most : Int} {M : TabQ} (p : Pair) (id : Bs 8) (d : Distance) :
    Spec Try.prog 15 #[.pointer (some ⟨b, 0, none⟩), .agg (Pair.enc p).toArray, .agg (Bs.enc id).toArray, .agg (Distance.enc d).toArray] [QTab b most M] F
    fun v S => ∃ ok M2, metF M p id d = (ok, M2) ∧ v = .bool ok ∧ S = [QTab b most M2] :=
  (metT F p id d).mono fun v S ⟨h1, h2⟩ => ⟨_, _, rfl, h1, h2⟩
theorem met_ord {M M2 : TabQ} {L L2 : List Pending} {p : Pair} {id : Bs 8} {d : Distance} {ok ok2 : Bool} (h : OrdQ M L) (ha : metF M p id d = (ok, M2)) (hr : RMet L p id d ok2 L2) : ok = ok2 ∧ OrdQ M2 L2 ∧ (∀ x ∈ L2, x ∈ L) ∧ L2.length ≤ L.length := by
  rcases hr with ⟨rfl, rfl, hno | ⟨x, hx, hk, hm⟩⟩ | ⟨rfl, i, x, hi, hk, hm, rfl⟩
  · simp only [metF, h.look_none.2 hno] at ha
    cases ha; exact ⟨rfl, h, fun _ h => h, Nat.le_refl _⟩
  · simp only [metF, h.look_iff.2 ⟨hx, hk⟩, hm] at ha
    cases ha; exact ⟨rfl, h, fun _ h => h, Nat.le_refl _⟩
  · simp only [metF, h.look_iff.2 ⟨List.mem_of_getElem? hi, hk⟩, hm, if_true] at ha
    cases ha
    have := h.del keyCmpQ hi
    rw [hk] at this
    exact ⟨rfl, this, fun y hy => List.mem_of_mem_eraseIdx hy, List.length_eraseIdx_le _ _⟩
theorem forgetT2 (F : Fr) {b : Nat} {most : Int} {M : TabQ} {L : List Pending} (h : OrdQ M L) (hM : M.length ≤ 1000000) {a : Option Addr} {p : Pair} {c : Nat} (ha : ArgSl F a 34 Pair.enc [p, p]) :
    Spec Try.prog 16 #[.pointer (some ⟨b, 0, none⟩), .slice a 2 c] [QTab b most M] F
    fun v S => ∃ M2, OrdQ M2 (L.filter (notP p)) ∧ v = .int .i64 ((L.length : Int) - (L.filter (notP p)).length) ∧ S = [QTab b most M2] :=
  (forgetQT F hM h.keyed (xs := [p, p]) (by simp) ha).mono fun v S ⟨h1, h2⟩ => by
    have e1 : ∀ s : Pending, (!inQ [p, p] s) = notP p s := fun s => by simp [inQ, notP]
    have e2 : ∀ s : Pending, inQ [p, p] s = !notP p s := fun s => by rw [← e1]; simp
    refine ⟨_, ?_, ?_, h2⟩
    · have := h.filter (notP p)
      simpa only [e1] using this
    · rw [h1]
      congr 1
      have hl : (M.filter fun e => inQ [p, p] e.2).length = (L.filter fun s => !notP p s).length := by
        have h3 := (h.filter fun s => !notP p s).length
        rw [h3]
        simp only [e2]
      have hs : ∀ L : List Pending, (L.filter fun s => !notP p s).length + (L.filter (notP p)).length = L.length := by
        intro L
        induction L with
        | nil => rfl
        | cons x L ih => cases hx : notP p x <;> simp [hx] <;> omega
      have := hs L
      omega
theorem tick_ord (now : Int) {M : TabQ} {L : List Pending} (h : OrdQ M L) : ∀ i, i ≤ L.length → (tickQ now M (L.take i)).2.1 = (rtickQ now (L.take i)).2.1 ∧ (tickQ now M (L.take i)).2.2 = (rtickQ now (L.take i)).2.2 ∧ OrdQ (tickQ now M (L.take i)).1 ((rtickQ now (L.take i)).1 ++ L.drop i)
  | 0, _ => by simpa [tickQ, rtickQ] using h
  | i + 1, hi => by
    obtain ⟨h1, h2, h3⟩ := tick_ord now h i (by omega)
    have hx : L[i]? = some L[i] := List.getElem?_eq_getElem (by omega)
    have hd : L.drop i = L[i] :: L.drop (i + 1) := List.drop_eq_getElem_cons (by omega)
    generalize L[i] = x at hx hd
    rw [tickQ_succ now M hx, rtickQ_succ now hx]
    rw [hd] at h3
    have hat : ((rtickQ now (L.take i)).1 ++ x :: L.drop (i + 1))[(rtickQ now (L.take i)).1.length]? = some x := by simp
    unfold stepQ rstepQ
    by_cases c1 : now < x.at_
    · rw [if_pos c1, if_pos c1]
      exact ⟨h1, h2, by simpa using h3⟩
    · rw [if_neg c1, if_neg c1]
      by_cases c2 : x.tries = 4
      · rw [if_pos c2, if_pos c2]
        refine ⟨h1, by simp only; rw [h2], ?_⟩
        have := h3.del keyCmpQ hat
        simpa [List.eraseIdx_append_of_length_le] using this
      · rw [if_neg c2, if_neg c2]
        refine ⟨by simp only; rw [h1], h2, ?_⟩
        have := h3.set keyCmpQ (v := laterQ now x) (k := keyQ x) rfl hat rfl
        simpa [List.set_append_right] using this
theorem tick_good (now : Int) (hn : 0 ≤ now) {L : List Pending} (h : ∀ x ∈ L, GoodQ now x) : ∀ i, i ≤ L.length → ∀ x ∈ (rtickQ now (L.take i)).1, GoodQ now x
  | 0, _ => by simp [rtickQ]
  | i + 1, hi => by
    have ih := tick_good now hn h i (by omega)
    have hx : L[i]? = some L[i] := List.getElem?_eq_getElem (by omega)
    have hg := h L[i] (List.getElem_mem _)
    generalize L[i] = x at hx hg
    rw [rtickQ_succ now hx]
    unfold rstepQ
    split
    · intro y hy
      rcases List.mem_append.1 hy with hy | hy
      · exact ih y hy
      · simp at hy; subst hy; exact hg
    · split
      · exact ih
      · rename_i c1 c2
        intro y hy
        rcases List.mem_append.1 hy with hy | hy
        · exact ih y hy
        · simp only [List.mem_singleton] at hy
          subst hy
          unfold GoodQ at hg
          rw [later_eq now hg.2.2.1 hg.2.2.2.1 (k := x.tries.toNat) (by omega)]
          have ht : x.tries.toNat = 1 ∨ x.tries.toNat = 2 ∨ x.tries.toNat = 3 := by omega
          unfold GoodQ
          rcases ht with h | h | h <;> rw [h] <;> simp only <;> omega
theorem tickT2 (F : Fr) {b : Nat} {most : Int} {M : TabQ} {L : List Pending} (h : OrdQ M L) (hM : M.length ≤ 1000000) (now : Int) (hn0 : 0 ≤ now) (hn1 : now ≤ 1000000000000) (hg : ∀ x ∈ L, GoodQ now x) :
    Spec Try.prog 12 #[.pointer (some ⟨b, 0, none⟩), .int .i64 now] [QTab b most M] F
    fun v S => ∃ M2 va vg, OrdQ M2 (rtickQ now L).1 ∧ v = .tuple #[va, vg] ∧ S = [QTab b most M2, slA 67 45 Pending.enc va (rtickQ now L).2.1, slA 67 45 Pending.enc vg (rtickQ now L).2.2] :=
  (tickQT F hM now hn0 (by omega) (fun e he => (hg e.2 (h.perm.symm.subset (List.mem_map.2 ⟨e, he, rfl⟩))).ok hn1)).mono fun v S ⟨ys, va, vg, h1, h2, h3, h4⟩ => by
    obtain rfl := h.uniq keyCmpQ h2 h3
    obtain ⟨t1, t2, t3⟩ := tick_ord now h ys.length (Nat.le_refl _)
    rw [List.take_length] at t1 t2 t3
    rw [List.drop_length, List.append_nil] at t3
    rw [t1, t2] at h4
    exact ⟨_, va, vg, t3, h1, h4⟩
theorem listT2 (F : Fr) {b : Nat} {most : Int} {M : TabQ} {L : List Pending} (h : OrdQ M L) (hM : M.length ≤ 1000000) : Spec Try.prog 13 #[.pointer (some ⟨b, 0, none⟩)] [QTab b most M] F
    fun v S => S = [QTab b most M, slA 67 45 Pending.enc v L] :=
  (listQT F hM).mono fun v S ⟨ys, h1, h2, h3⟩ => by
    obtain rfl := h.uniq keyCmpQ h1 h2
    exact h3
theorem nextT2 (F : Fr) {b : Nat} {most : Int} {M : TabQ} {L : List Pending} (h : OrdQ M L) (hM : M.length ≤ 1000000) : Spec Try.prog 24 #[.pointer (some ⟨b, 0, none⟩)] [QTab b most M] F
    fun v S => ∃ n ok, v = .tuple #[.int .i64 n, .bool ok] ∧ NextIs L n ok ∧ S = [QTab b most M] := by
  refine Spec.mono (qtab_spec (Q := fun v M' B => ∃ n ok, v = .tuple #[.int .i64 n, .bool ok] ∧ NextIs L n ok ∧ M' = M ∧ B = []) fun F' r E hf hv hnd hle => ?_) ?_
  · subst hv
    refine (nextQ F' hf (by rw [lenQ] at hM; exact hM)).mono ?_
    rintro v S ⟨ys, h1, h2, n, ok, h3, h4, rfl⟩
    have e : E.map (·.2.2) = (vals E).map (·.2) := by simp [vals]
    rw [e] at h1
    obtain rfl := h.uniq keyCmpQ h1 h2
    exact ⟨E, [], [], ⟨n, ok, h3, h4, rfl, rfl⟩, permQ_same⟩
  · rintro v S ⟨M', B, ⟨n, ok, h1, h2, rfl, rfl⟩, rfl⟩; exact ⟨n, ok, h1, h2, rfl⟩
end Slb
