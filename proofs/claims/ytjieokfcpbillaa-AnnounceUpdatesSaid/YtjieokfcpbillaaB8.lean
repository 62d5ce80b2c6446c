/- Base 8: a range over a map, step by step; slices that grow. -/
import Derived.Test.YtjieokfcpbillaaB7
namespace Slb
open Go

section range
variable {P : Program} {N : Nat} {G : Env} {S S1 : List HProp} {F : Fr} {o : Oper} {t kt et : TypeId} {x : Operand} {r it : Nat} {K V : Type} {ek : K → Value} {ev : V → Value} {M todo : List (K × V)} {cur : Option (K × V)}
theorem EF.range (ho : o.op = .range t x) (hx : opv G x = some (.map (some r))) (hu : P.underlying t = some (.map kt et)) (pk : Pick S (mapT ek ev r M) S1) :
    EF P N G S F o fun u S' => ∃ it, u = .pointer (some ⟨it, 0, none⟩) ∧ S' = rangeT ek ev r it M M none :: S1 := fun a w st => by
  obtain ⟨es, c, s2, h⟩ := (st.sat.perm pk.perm).mapOpen
  have hh := s2.at
  have hg : (getObj r).run P w = .ok (.map es c) w := by unfold getObj; simp [Sem.run, hh]
  have s3 := s2.new (.mapIter (some r) c #[] c)
  have hne : r ≠ w.heap.size := by have := (Array.getElem?_eq_some_iff.1 hh).1; omega
  refine estep_value (v := .pointer (some ⟨w.heap.size, 0, none⟩)) (w' := { w with heap := w.heap.push (.mapIter (some r) c #[] c) }) ?_ ⟨_, ⟨_, rfl, rfl⟩, ?_⟩
  · unfold execOp
    simp only [ho, st.eval hx, Instr.range, Sem.run_bind, run_underlying hu, Result.andThen_ok, hg, Sem.run_pure]
    simp [newObj, Sem.run]
  · have s4 := (s3.perm (List.Perm.swap _ _ _)).join
    exact s4.head fun k ⟨h1, h2, d, e, a1, a2⟩ => ⟨es, c, #[], by rw [e, show h1 = _ from a1, show h2 = _ from a2], hne, h, by
      rw [List.filter_eq_self.2 (fun e _ => by simp)]; exact h.ents, fun p hp => by cases hp⟩
theorem Sat.rangeOpen {w : World} (s : Sat (rangeT ek ev r it M todo cur :: S) F w) : ∃ es c seen, Sat (pts r (.map es c) :: pts it (.mapIter (some r) c seen c) :: S) F w ∧ r ≠ it ∧ MapIs ek ev es c M ∧
    (es.toList.filter fun e => !seen.contains e.born).map (fun e => (e.key, e.val)) = todo.map (fun p => (ek p.1, ev p.2)) ∧
    ∀ p, cur = some p → ∃ e ∈ es.toList, seen.back? = some e.born ∧ e.key = ek p.1 ∧ e.val = ev p.2 := by
  obtain ⟨a, b, c, d, k, ⟨h1, h2, e1, e2, ⟨es, cl, seen, hh, hne, hm, ht, hc⟩, e4⟩, f, g⟩ := s
  refine ⟨es, cl, seen, Sat.split ⟨a, b, c, d, k, ⟨h1, h2, e1, e2, ⟨_, _, ?_, hh, rfl, rfl⟩, e4⟩, f, g⟩, hne, hm, ht, hc⟩
  intro y
  by_cases hy : y = r
  · right; simp [PH.single]; omega
  · left; simp [PH.single, hy]
theorem J.rangeEnd {Φ : Act → World → Prop} (pk : Pick S (rangeT ek ev r it M todo cur) S1) (j : J N G (mapT ek ev r M :: S1) F Φ) : J N G S F Φ := j.conseq fun w s => by
  obtain ⟨es, c, seen, s2, _, hm, _⟩ := (s.perm pk.perm).rangeOpen
  exact ((s2.perm (List.Perm.swap _ _ _)).drop).mapClose hm
theorem QR.entry (ho : o.op = .entry x) (hx : opv G x = some (.pointer (some ⟨it, 0, none⟩))) {p : K × V} [hr : HasRange it S K V ek ev r M todo (some p)] : QR P N G S F o (.tuple #[ek p.1, ev p.2]) := fun a w st => by
  obtain ⟨rr, hp⟩ := mem_perm hr.mem
  obtain ⟨es, c, seen, s2, _, hm, _, hc⟩ := (st.sat.perm hp).rangeOpen
  obtain ⟨e, he, hb, hk, hv⟩ := hc p rfl
  have h1 : (getObj r).run P w = .ok (.map es c) w := by unfold getObj; simp [Sem.run, s2.at]
  have h2 : (getObj it).run P w = .ok (.mapIter (some r) c seen c) w := by unfold getObj; simp [Sem.run, (s2.perm (List.Perm.swap _ _ _)).at]
  have hf : es.find? (fun x => x.born == e.born) = some e := by
    rw [← Array.find?_toList]
    have hnd := hm.born
    clear hc hb hk hv h1 h2 s2
    generalize es.toList = l at he hnd
    induction l with
    | nil => cases he
    | cons y l ih =>
      rw [List.pairwise_cons] at hnd
      rcases List.mem_cons.1 he with rfl | he
      · simp
      · have : y.born ≠ e.born := Nat.ne_of_lt (hnd.1 e he)
        simp only [List.find?_cons, beq_eq_false_iff_ne.2 this]
        exact ih he hnd.2
  unfold execOp
  simp only [ho, st.eval hx, Instr.entry, Sem.run_bind, h2, Result.andThen_ok, Sem.run_pure, hb, h1]
  simp [hf, hk, hv]
theorem EF.next (ho : o.op = .next x false) (hx : opv G x = some (.pointer (some ⟨it, 0, none⟩))) (pk : Pick S (rangeT ek ev r it M todo cur) S1) :
    EF P N G S F o fun u S' => (todo = [] ∧ u = .tuple #[.bool false] ∧ S' = rangeT ek ev r it M todo cur :: S1) ∨
      ∃ i p, todo[i]? = some p ∧ u = .tuple #[.bool true, ek p.1, ev p.2] ∧ S' = rangeT ek ev r it M (todo.eraseIdx i) (some p) :: S1 := fun a w st => by
  have s0 := st.sat.perm pk.perm
  obtain ⟨es, c, seen, s2, hne, hm, ht, hc⟩ := s0.rangeOpen
  have h1 : (getObj r).run P w = .ok (.map es c) w := by unfold getObj; simp [Sem.run, s2.at]
  have hit : w.heap[it]? = some (.mapIter (some r) c seen c) := (s2.perm (List.Perm.swap _ _ _)).at
  have h2 : (getObj it).run P w = .ok (.mapIter (some r) c seen c) w := by unfold getObj; simp [Sem.run, hit]
  have hall : (!seen.isEmpty && !es.isEmpty && es.all (·.born ≥ c)) = false := by
    by_cases he : es.isEmpty = true
    · simp [he]
    · have : es.all (·.born ≥ c) = false := by
        rw [Bool.eq_false_iff]
        intro hcon
        rw [← Array.all_toList, List.all_eq_true] at hcon
        have hne' : es ≠ #[] := fun h => he (by simp [h])
        have hpos : 0 < es.toList.length := by simpa [Array.size_pos_iff] using hne'
        have hmem := List.getElem_mem hpos
        have a1 := hcon _ hmem
        have a2 := hm.clock _ hmem
        have a3 : c ≤ es.toList[0].born := of_decide_eq_true a1
        omega
      simp [this]
  have hold : (es.filter fun e => !seen.contains e.born).filter (·.born < c) = es.filter fun e => !seen.contains e.born := by
    rw [Array.filter_eq_self]
    intro e he
    rw [Array.mem_filter] at he
    simpa using hm.clock e (Array.mem_toList_iff.2 he.1)
  have hnew : (es.filter fun e => !seen.contains e.born).filter (·.born ≥ c) = #[] := by
    rw [Array.filter_eq_empty_iff]
    intro e he
    rw [Array.mem_filter] at he
    have := hm.clock e (Array.mem_toList_iff.2 he.1)
    simpa using this
  generalize hleft : es.filter (fun e => !seen.contains e.born) = left at hold hnew
  have htl : left.toList.map (fun e => (e.key, e.val)) = todo.map fun p => (ek p.1, ev p.2) := by rw [← ht, ← hleft]; simp
  have hlen : left.size = todo.length := by simpa using congrArg List.length htl
  have hrun : (execOp a.eval o).run P w = ((Instr.next (.pointer (some ⟨it, 0, none⟩)) false o.type).run P w).andThen fun v w' => .ok (.value v) w' := by
    unfold execOp
    simp only [ho, st.eval hx, Sem.run_bind]
    rfl
  by_cases h0 : todo = []
  · subst h0
    have hl0 : left = #[] := by simpa using hlen
    have key : ∃ n, w.drawn ≤ n ∧ (Instr.next (.pointer (some ⟨it, 0, none⟩)) false o.type).run P w = .ok (.tuple #[.bool false]) { w with drawn := n } := by
      unfold Instr.next
      simp only [Sem.run_bind, h2, Result.andThen_ok, h1, hall, hleft, hold, hnew, hl0]
      simp [choose, Sem.run, Question.forced]
      exact ⟨w.drawn, Nat.le_refl _, rfl⟩
    obtain ⟨n, hdn, hn⟩ := key
    refine estep_value (v := .tuple #[.bool false]) (w' := { w with drawn := n }) (by rw [hrun, hn]; rfl) ⟨_, .inl ⟨rfl, rfl, rfl⟩, s0.drew hdn⟩
  · have hpos : 0 < todo.length := List.length_pos_iff.2 h0
    have key : ∃ (n i : Nat) (e : MapEntry), w.drawn ≤ n ∧ left[i]? = some e ∧ (Instr.next (.pointer (some ⟨it, 0, none⟩)) false o.type).run P w = .ok (.tuple #[.bool true, e.key, e.val]) { w with drawn := n, heap := w.heap.setIfInBounds it (.mapIter (some r) c (seen.push e.born) c) } := by
      have hne0 : left.isEmpty = false := by rw [Array.isEmpty_eq_false_iff]; intro h; rw [h] at hlen; simp at hlen; omega
      unfold Instr.next
      simp only [Sem.run_bind, h2, Result.andThen_ok, h1, hall, hleft, hold, hnew, hne0, Bool.false_eq_true, if_false, Array.append_empty, Array.empty_append, Array.size_map]
      have hch : ∃ i w1, i < left.size ∧ w.drawn ≤ w1.drawn ∧ w1.heap = w.heap ∧ w1.os = w.os ∧ w1.tape = w.tape ∧ w1.output = w.output ∧ (choose (.mapNext left.size)).run P w = .ok i w1 := by
        unfold choose
        simp only [Sem.run]
        split
        · exact ⟨0, w, by omega, Nat.le_refl _, rfl, rfl, rfl, rfl, rfl⟩
        · exact ⟨(Question.mapNext left.size).cut (w.tape w.drawn (Question.mapNext left.size)), { w with drawn := w.drawn + 1 }, Nat.mod_lt _ (by omega), Nat.le_succ _, rfl, rfl, rfl, rfl, rfl⟩
      obtain ⟨i, w1, hi, hd1, e1, e2, e3, e4, hrc⟩ := hch
      have hw1 : w1 = { w with drawn := w1.drawn } := by cases w1; cases w; simp_all
      rw [hrc]
      have hget : (left.map some)[i]? = some (some left[i]) := by simp [hi]
      simp only [Result.andThen_ok, hget]
      have hset : (setObj it (.mapIter (some r) c (seen.push left[i].born) c)).run P w1 = .ok () { w1 with heap := w1.heap.setIfInBounds it (.mapIter (some r) c (seen.push left[i].born) c) } := run_setObj (by rw [e1]; exact hit) (by simp)
      refine ⟨w1.drawn, i, left[i], hd1, Array.getElem?_eq_getElem hi, ?_⟩
      simp only [Sem.run_bind, hset, Result.andThen_ok, Sem.run_pure]
      rw [hw1]
    obtain ⟨n, i, e, hdn, he, hn⟩ := key
    have htl' := congrArg (·[i]?) htl
    simp only [List.getElem?_map, Array.getElem?_toList, he, Option.map_some] at htl'
    cases hti : todo[i]? with
    | none => rw [hti] at htl'; cases htl'
    | some p =>
      rw [hti] at htl'
      simp only [Option.map_some, Option.some.injEq, Prod.mk.injEq] at htl'
      obtain ⟨hk, hv⟩ := htl'
      refine estep_value (v := .tuple #[.bool true, ek p.1, ev p.2]) (w' := { w with drawn := n, heap := w.heap.setIfInBounds it (.mapIter (some r) c (seen.push e.born) c) }) (by rw [hrun, hn, hk, hv]; rfl) ⟨_, .inr ⟨i, p, hti, rfl, rfl⟩, ?_⟩
      have heL : e ∈ left := Array.mem_of_getElem? he
      rw [← hleft, Array.mem_filter] at heL
      have s3 := Sat.setObj (o' := .mapIter (some r) c (seen.push e.born) c) (s2.perm (List.Perm.swap _ _ _))
      have s4 := (s3.perm (List.Perm.swap _ _ _)).join
      refine Sat.drew (s4.head fun k ⟨k1, k2, d, ek', a1, a2⟩ => ⟨es, c, seen.push e.born, by rw [ek', show k1 = _ from a1, show k2 = _ from a2], hne, hm, ?_, fun p' hp' => ?_⟩) hdn
      · -- what is left
        have hnd : (left.toList.map (·.born)).Nodup := by
          rw [← hleft]
          have : (es.toList.map (·.born)).Pairwise (· < ·) := List.pairwise_map.2 hm.born
          have h3 : (es.toList.map (·.born)).Nodup := this.imp (fun h => Nat.ne_of_lt h)
          simp only [Array.toList_filter]
          exact h3.sublist (List.filter_sublist.map _)
        have hfil : (es.toList.filter fun x => !(seen.push e.born).contains x.born) = left.toList.eraseIdx i := by
          have e1 : (es.toList.filter fun x => !(seen.push e.born).contains x.born) = left.toList.filter fun x => x.born != e.born := by
            rw [← hleft]
            simp only [Array.toList_filter, List.filter_filter]
            congr 1
            funext x
            simp only [Array.contains_push, Bool.not_or]
            rw [Bool.and_comm]
            by_cases hx : x.born = e.born
            · simp [hx]
            · simp [hx, bne]
          rw [e1]
          have hei : left.toList[i]? = some e := by rw [Array.getElem?_toList]; exact he
          clear hn hrun hleft hold hnew htl hlen heL s3 s4 he e1 hti
          generalize left.toList = l at hnd hei
          induction l generalizing i with
          | nil => simp at hei
          | cons y l ih =>
            simp only [List.map_cons, List.nodup_cons] at hnd
            cases i with
            | zero =>
              simp only [List.getElem?_cons_zero, Option.some.injEq] at hei
              subst hei
              simp only [List.filter_cons, bne_self_eq_false, Bool.false_eq_true, if_false, List.eraseIdx_cons_zero]
              rw [List.filter_eq_self]
              intro x hx
              rw [bne_iff_ne]
              intro hxe
              exact hnd.1 (List.mem_map.2 ⟨x, hx, hxe⟩)
            | succ i =>
              simp only [List.getElem?_cons_succ] at hei
              have hye : y.born ≠ e.born := fun h => hnd.1 (h ▸ List.mem_map.2 ⟨e, List.mem_of_getElem? hei, rfl⟩)
              have hb : (y.born != e.born) = true := bne_iff_ne.2 hye
              simp only [List.filter_cons, hb, if_true, List.eraseIdx_cons_succ]
              rw [ih i hnd.2 hei]
        rw [hfil, map_eraseIdx', htl, map_eraseIdx']
      · cases hp'
        exact ⟨e, Array.mem_toList_iff.2 heL.1, by simp, hk, hv⟩
end range
end Slb
