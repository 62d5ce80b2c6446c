/- Base 7: maps, ranges over maps, slices that grow. -/
import Derived.Test.YtjieokfcpbillaaB6
namespace Slb
open Go

/-! ### Maps -/
section lists
variable {K V : Type} [DecidableEq K]
def alook : List (K × V) → K → Option V
  | [], _ => none
  | (a, v) :: r, k => if a = k then some v else alook r k
def aset : List (K × V) → K → V → List (K × V)
  | [], k, v => [(k, v)]
  | (a, u) :: r, k, v => if a = k then (k, v) :: r else (a, u) :: aset r k v
def adel : List (K × V) → K → List (K × V)
  | [], _ => []
  | (a, u) :: r, k => if a = k then r else (a, u) :: adel r k
theorem alook_none {M : List (K × V)} {k : K} : alook M k = none ↔ ∀ p ∈ M, p.1 ≠ k := by
  induction M with
  | nil => simp [alook]
  | cons p r ih =>
    obtain ⟨a, v⟩ := p
    unfold alook
    by_cases h : a = k
    · simp [h]
    · simp [h, ih]
theorem alook_some {M : List (K × V)} {k : K} {v : V} (h : alook M k = some v) : (k, v) ∈ M := by
  induction M with
  | nil => cases h
  | cons p r ih =>
    obtain ⟨a, u⟩ := p
    unfold alook at h
    by_cases hk : a = k
    · rw [if_pos hk] at h; cases h; subst hk; exact List.mem_cons_self
    · rw [if_neg hk] at h; exact List.mem_cons_of_mem _ (ih h)
theorem aset_none {M : List (K × V)} {k : K} {v : V} (h : alook M k = none) : aset M k v = M ++ [(k, v)] := by
  induction M with
  | nil => rfl
  | cons p r ih =>
    obtain ⟨a, u⟩ := p
    unfold alook at h
    by_cases hk : a = k
    · rw [if_pos hk] at h; cases h
    · rw [if_neg hk] at h; unfold aset; rw [if_neg hk, ih h]; rfl
theorem adel_none {M : List (K × V)} {k : K} (h : alook M k = none) : adel M k = M := by
  induction M with
  | nil => rfl
  | cons p r ih =>
    obtain ⟨a, u⟩ := p
    unfold alook at h
    by_cases hk : a = k
    · rw [if_pos hk] at h; cases h
    · rw [if_neg hk] at h; unfold adel; rw [if_neg hk, ih h]
theorem nodup_at {M : List (K × V)} (hn : (M.map (·.1)).Nodup) {j : Nat} {k : K} {v : V} (h : M[j]? = some (k, v)) : alook M k = some v ∧ aset M k = (fun u => M.set j (k, u)) ∧ adel M k = M.eraseIdx j := by
  induction M generalizing j with
  | nil => simp at h
  | cons p r ih =>
    obtain ⟨a, u⟩ := p
    simp only [List.map_cons, List.nodup_cons] at hn
    cases j with
    | zero =>
      simp only [List.getElem?_cons_zero, Option.some.injEq, Prod.mk.injEq] at h
      obtain ⟨rfl, rfl⟩ := h
      refine ⟨by simp [alook], by funext x; simp [aset], by simp [adel]⟩
    | succ j =>
      simp only [List.getElem?_cons_succ] at h
      have hne : a ≠ k := by
        rintro rfl
        exact hn.1 (List.mem_map.2 ⟨(a, v), List.mem_of_getElem? h, rfl⟩)
      obtain ⟨h1, h2, h3⟩ := ih hn.2 h
      refine ⟨by simp [alook, hne, h1], ?_, by simp [adel, hne, h3]⟩
      funext x
      have := congrFun h2 x
      simp [aset, hne, this]
end lists

theorem map_eraseIdx' {α β : Type} (f : α → β) (l : List α) (j : Nat) : (l.eraseIdx j).map f = (l.map f).eraseIdx j := by
  induction l generalizing j with
  | nil => rfl
  | cons x l ih => cases j with
    | zero => rfl
    | succ j => simp [ih]
/-- What a map's block holds. -/
structure MapIs {K V : Type} (ek : K → Value) (ev : V → Value) (es : Array MapEntry) (c : Nat) (M : List (K × V)) : Prop where
  ents : es.toList.map (fun e => (e.key, e.val)) = M.map fun p => (ek p.1, ev p.2)
  nodup : (M.map (·.1)).Nodup
  born : es.toList.Pairwise fun a b => a.born < b.born
  clock : ∀ e ∈ es.toList, e.born < c
def mapT {K V : Type} (ek : K → Value) (ev : V → Value) (r : Nat) (M : List (K × V)) : HProp := fun h => ∃ es c, h = PH.single r (.map es c) ∧ MapIs ek ev es c M
class HasMap (r : Nat) (S : List HProp) (K V : outParam Type) (ek : outParam (K → Value)) (ev : outParam (V → Value)) (M : outParam (List (K × V))) : Prop where
  mem : mapT ek ev r M ∈ S
instance HasMap.head {r : Nat} {S : List HProp} {K V : Type} {ek : K → Value} {ev : V → Value} {M : List (K × V)} : HasMap r (mapT ek ev r M :: S) K V ek ev M := ⟨List.mem_cons_self⟩
instance (priority := low) HasMap.tail {r : Nat} {A : HProp} {S : List HProp} {K V : Type} {ek : K → Value} {ev : V → Value} {M : List (K × V)} [h : HasMap r S K V ek ev M] : HasMap r (A :: S) K V ek ev M := ⟨List.mem_cons_of_mem _ h.mem⟩
class UpdMap (r : Nat) (S : List HProp) (K V : outParam Type) (ek : outParam (K → Value)) (ev : outParam (V → Value)) (M : outParam (List (K × V))) (C : outParam (List (K × V) → List HProp)) : Prop where
  upd : ∀ M', Upd S (mapT ek ev r M) (mapT ek ev r M') (C M')
instance UpdMap.head {r : Nat} {S : List HProp} {K V : Type} {ek : K → Value} {ev : V → Value} {M : List (K × V)} : UpdMap r (mapT ek ev r M :: S) K V ek ev M (fun M' => mapT ek ev r M' :: S) := ⟨fun _ => .head⟩
instance (priority := low) UpdMap.tail {r : Nat} {A : HProp} {S : List HProp} {K V : Type} {ek : K → Value} {ev : V → Value} {M : List (K × V)} {C : List (K × V) → List HProp} [h : UpdMap r S K V ek ev M C] : UpdMap r (A :: S) K V ek ev M (fun M' => A :: C M') := ⟨fun M' => .tail (h.upd M')⟩

theorem Sat.memX {S : List HProp} {F : Fr} {w : World} {A : HProp} (s : Sat S F w) (h : A ∈ S) : ∃ p, A p ∧ PH.le p (hp w) := by
  obtain ⟨r, hr⟩ := mem_perm h
  obtain ⟨_, _, _, _, k, ⟨h1, h2, _, rfl, a, _⟩, _, g⟩ := s.perm hr
  exact ⟨h1, a, PH.le_union_left.trans g⟩
section
variable {P : Program} {N : Nat} {G : Env} {S : List HProp} {F : Fr} {o : Oper} {t kt et : TypeId} {x y : Operand} {r : Nat} {K V : Type} [DecidableEq K] {ek : K → Value} {ev : V → Value} {M : List (K × V)}
omit [DecidableEq K] in
theorem Sat.map {w : World} (s : Sat S F w) (h : mapT ek ev r M ∈ S) : ∃ es c, w.heap[r]? = some (.map es c) ∧ MapIs ek ev es c M := by
  obtain ⟨p, ⟨es, c, rfl, hm⟩, hle⟩ := s.memX h
  exact ⟨es, c, hle r _ (single_self _ _), hm⟩
omit [DecidableEq K] in
theorem MapIs.get {es : Array MapEntry} {c : Nat} (h : MapIs ek ev es c M) {j : Nat} {e : MapEntry} (he : es.toList[j]? = some e) : ∃ p, M[j]? = some p ∧ e.key = ek p.1 ∧ e.val = ev p.2 := by
  have := congrArg (·[j]?) h.ents
  simp only [List.getElem?_map, he, Option.map_some] at this
  cases hM : M[j]? with
  | none => rw [hM] at this; cases this
  | some p =>
    rw [hM] at this
    simp only [Option.map_some, Option.some.injEq, Prod.mk.injEq] at this
    exact ⟨p, rfl, this.1, this.2⟩
omit [DecidableEq K] in
theorem MapIs.size {es : Array MapEntry} {c : Nat} (h : MapIs ek ev es c M) : es.size = M.length := by
  have := congrArg List.length h.ents
  simpa using this
/-- Looking for a key. -/
theorem run_find (hk : KeyTy P kt K ek) {es : Array MapEntry} {c : Nat} (h : MapIs ek ev es c M) (k : K) (w : World) :
    (alook M k = none ∧ (Instr.findKey kt (ek k) es.toList).run P w = .ok none w) ∨
    ∃ j v e, (Instr.findKey kt (ek k) es.toList).run P w = .ok (some (j, ev v)) w ∧ M[j]? = some (k, v) ∧ es.toList[j]? = some e ∧ e.key = ek k ∧ alook M k = some v := by
  obtain ⟨lx, hlx⟩ := hk.lits k
  have hall : ∀ e ∈ es.toList, ∃ l, keyOf P kt e.key = some l := fun e he => by
    obtain ⟨j, hj⟩ := List.getElem?_of_mem he
    obtain ⟨p, _, hp, _⟩ := h.get hj
    rw [hp]; exact hk.lits p.1
  rcases hk.law.find w hlx es.toList hall with ⟨h1, h2⟩ | ⟨j, e, h1, h2, h3⟩
  · left
    refine ⟨alook_none.2 fun p hp hpk => ?_, h1⟩
    obtain ⟨j, hj⟩ := List.getElem?_of_mem hp
    have hlt : j < es.toList.length := by
      have := (List.getElem?_eq_some_iff.1 hj).1
      have := h.size
      simp; omega
    obtain ⟨p', hp', hkey, _⟩ := h.get (List.getElem?_eq_getElem hlt)
    rw [hj] at hp'; cases hp'
    exact h2 _ (List.getElem_mem hlt) (by rw [hkey, hpk])
  · right
    obtain ⟨p, hp, hkey, hval⟩ := h.get h2
    have : p.1 = k := hk.inj _ _ (by rw [← hkey, h3])
    obtain ⟨a, v⟩ := p
    simp only at this hval hkey
    subst this
    exact ⟨j, v, e, by rw [h1, hval], hp, h2, h3, (nodup_at h.nodup hp).1⟩
theorem run_lookup (hk : KeyTy P kt K ek) (hu : P.underlying t = some (.map kt et)) {zv : Value} (hz : Zero P et zv) {w : World} (s : Sat S F w) (hm : mapT ek ev r M ∈ S) (k : K) (ok : Bool) :
    (Instr.lookup t (.map (some r)) (ek k) ok).run P w = .ok (if ok then .tuple #[((alook M k).map ev).getD zv, .bool (alook M k).isSome] else ((alook M k).map ev).getD zv) w := by
  obtain ⟨es, c, hh, h⟩ := s.map hm
  obtain ⟨lx, hlx⟩ := hk.lits k
  have hg : (getObj r).run P w = .ok (.map es c) w := by unfold getObj; simp [Sem.run, hh]
  unfold Instr.lookup
  simp only [Sem.run_bind, run_underlying hu, Result.andThen_ok, hg, Sem.run_pure, hk.law.check w es.isEmpty hlx]
  rcases run_find hk h k w with ⟨h1, h2⟩ | ⟨j, v, e, h2, _, _, _, h1⟩
  · simp only [h2, Result.andThen_ok, Sem.run_bind, hz w, Sem.run_pure, h1]
    cases ok <;> simp
  · simp only [h2, Result.andThen_ok, Sem.run_pure, h1]
    cases ok <;> simp
theorem QR.lookup (hk : KeyTy P kt K ek) (ho : o.op = .lookup t x y false) (hx : opv G x = some (.map (some r))) [hm : HasMap r S K V ek ev M] {k : K} (hy : opv G y = some (ek k)) (hu : P.underlying t = some (.map kt et)) {zv : Value} (hz : Zero P et zv) :
    QR P N G S F o (((alook M k).map ev).getD zv) := fun a w st => by
  unfold execOp
  simp only [ho, st.eval hx, st.eval hy, Sem.run_bind, run_lookup hk hu hz st.sat hm.mem k false, Result.andThen_ok, Sem.run_pure]
  simp
theorem QR.lookup2 (hk : KeyTy P kt K ek) (ho : o.op = .lookup t x y true) (hx : opv G x = some (.map (some r))) [hm : HasMap r S K V ek ev M] {k : K} (hy : opv G y = some (ek k)) (hu : P.underlying t = some (.map kt et)) {zv : Value} (hz : Zero P et zv) :
    QR P N G S F o (.tuple #[((alook M k).map ev).getD zv, .bool (alook M k).isSome]) := fun a w st => by
  unfold execOp
  simp only [ho, st.eval hx, st.eval hy, Sem.run_bind, run_lookup hk hu hz st.sat hm.mem k true, Result.andThen_ok, Sem.run_pure]
  simp
omit [DecidableEq K] in
theorem QR.lenMap {ts : Array TypeId} (ho : o.op = .call ⟨.builtin .len, #[x], ts⟩) (hx : opv G x = some (.map (some r))) (ht : ts[0]? = some t) (hu : P.underlying t = some (.map kt et)) [hm : HasMap r S K V ek ev M] :
    QR P N G S F o (.int .i64 M.length) := fun a w st => by
  obtain ⟨es, c, hh, h⟩ := st.sat.map hm.mem
  have hg : (getObj r).run P w = .ok (.map es c) w := by unfold getObj; simp [Sem.run, hh]
  have hmap : #[x].map a.eval = #[.map (some r)] := by simp [st.eval hx]
  unfold execOp
  simp only [ho, resolve, hmap]
  simp [invoke, builtin, Builtin.len_, ht, run_underlying hu, hg, goInt, h.size]
theorem run_setObj {w : World} {b : Nat} {o1 o2 : Obj} (h : w.heap[b]? = some o1) (hn : ∀ c e f, o1 ≠ .cells c e f) : (setObj b o2).run P w = .ok () { w with heap := w.heap.setIfInBounds b o2 } := by
  unfold setObj
  cases o1 <;> simp_all [Sem.run]
omit [DecidableEq K] in
theorem Sat.setObj {b : Nat} {o o' : Obj} {S : List HProp} {w : World} (s : Sat (pts b o :: S) F w) : Sat (pts b o' :: S) F { w with heap := w.heap.setIfInBounds b o' } := by
  have hlt := (Array.getElem?_eq_some_iff.1 s.at).1
  exact s.set o' rfl rfl ⟨rfl, Nat.le_refl _⟩ (by simp [hlt]) fun c hc => by simp [Array.getElem?_setIfInBounds_ne (Ne.symm hc)]
omit [DecidableEq K] in
theorem Sat.mapOpen {w : World} (s : Sat (mapT ek ev r M :: S) F w) : ∃ es c, Sat (pts r (.map es c) :: S) F w ∧ MapIs ek ev es c M := by
  obtain ⟨a, b, c, d, k, ⟨h1, h2, e1, e2, ⟨es, cl, hh, hm⟩, e4⟩, f, g⟩ := s
  exact ⟨es, cl, ⟨a, b, c, d, k, ⟨h1, h2, e1, e2, hh, e4⟩, f, g⟩, hm⟩
omit [DecidableEq K] in
theorem Sat.mapClose {w : World} {es : Array MapEntry} {c : Nat} (h : MapIs ek ev es c M) (s : Sat (pts r (.map es c) :: S) F w) : Sat (mapT ek ev r M :: S) F w :=
  s.head fun _ hh => ⟨es, c, hh, h⟩
omit [DecidableEq K] in
theorem Sat.mapSet {w : World} {es es' : Array MapEntry} {c c' : Nat} {M' : List (K × V)} (s : Sat (pts r (.map es c) :: S) F w) (h : MapIs ek ev es' c' M') : Sat (mapT ek ev r M' :: S) F { w with heap := w.heap.setIfInBounds r (.map es' c') } :=
  (Sat.setObj s).mapClose h
theorem EF.mapUpdate (hk : KeyTy P kt K ek) {z : Operand} {k : K} {v : V} {C : List (K × V) → List HProp} (ho : o.op = .mapUpdate t x y z) (hx : opv G x = some (.map (some r))) [u : UpdMap r S K V ek ev M C] (hy : opv G y = some (ek k)) (hz : opv G z = some (ev v)) (hu : P.underlying t = some (.map kt et)) :
    EF P N G S F o fun _ S2 => S2 = C (aset M k v) := fun a w st => by
  obtain ⟨rr, s1, back⟩ := Sat.upd (u.upd (aset M k v)) st.sat
  obtain ⟨es, c, s2, h⟩ := s1.mapOpen
  obtain ⟨lx, hlx⟩ := hk.lits k
  have hh := s2.at
  have hg : (getObj r).run P w = .ok (.map es c) w := by unfold getObj; simp [Sem.run, hh]
  rcases run_find hk h k w with ⟨h1, h2⟩ | ⟨j, v', e, h2, hMj, hej, hekey, h1⟩
  · have h' : MapIs ek ev (es.push ⟨ek k, ev v, c⟩) (c + 1) (aset M k v) := by
      rw [aset_none h1]
      refine ⟨by simp [h.ents], ?_, ?_, ?_⟩
      · rw [List.map_append, List.nodup_append]
        refine ⟨h.nodup, by simp, fun a ha b hb => ?_⟩
        obtain ⟨p, hp, rfl⟩ := List.mem_map.1 ha
        simp only [List.map_cons, List.map_nil, List.mem_singleton] at hb
        subst hb
        exact alook_none.1 h1 p hp
      · rw [Array.toList_push, List.pairwise_append]
        exact ⟨h.born, by simp, fun a ha b hb => by rw [List.mem_singleton.1 hb]; exact h.clock a ha⟩
      · intro e he
        rw [Array.toList_push, List.mem_append] at he
        rcases he with he | he
        · exact Nat.lt_succ_of_lt (h.clock e he)
        · rw [List.mem_singleton.1 he]; exact Nat.lt_succ_self _
    refine estep_skip (w' := { w with heap := w.heap.setIfInBounds r (.map (es.push ⟨ek k, ev v, c⟩) (c + 1)) }) ?_ ⟨_, rfl, back _ (s2.mapSet h')⟩
    unfold execOp
    simp only [ho, st.eval hx, st.eval hy, st.eval hz, Instr.mapUpdate, Sem.run_bind, run_underlying hu, Result.andThen_ok, hg, hk.law.check w false hlx, h2, run_setObj hh (by simp), Sem.run_pure]
  · obtain ⟨_, hset, _⟩ := nodup_at h.nodup hMj
    have hlt : j < es.size := by simpa using (List.getElem?_eq_some_iff.1 hej).1
    have h' : MapIs ek ev (es.modify j fun e => { e with key := ek k, val := ev v }) c (aset M k v) := by
      have hset' := congrFun hset v
      have hMlt := (List.getElem?_eq_some_iff.1 hMj).1
      have hborn : (es.modify j fun e => { e with key := ek k, val := ev v }).toList.map (·.born) = es.toList.map (·.born) := by
        apply List.ext_getElem?
        intro i
        simp only [List.getElem?_map, Array.toList_modify, List.getElem?_modify]
        by_cases hij : j = i
        · subst hij; cases es.toList[j]? <;> simp
        · simp [hij]
      refine ⟨?_, ?_, ?_, ?_⟩
      · rw [hset']
        apply List.ext_getElem?
        intro i
        simp only [List.getElem?_map, Array.toList_modify, List.getElem?_modify, List.getElem?_set]
        by_cases hij : j = i
        · subst hij
          have : es.toList[j]? = some e := hej
          simp [this, hMlt]
        · simp only [hij, if_false]
          have := congrArg (·[i]?) h.ents
          simp only [List.getElem?_map] at this
          simpa using this
      · rw [hset']
        have : (M.set j (k, v)).map (·.1) = M.map (·.1) := by
          apply List.ext_getElem?
          intro i
          simp only [List.getElem?_map, List.getElem?_set]
          by_cases hij : j = i
          · subst hij; simp [hMlt]; rw [(List.getElem?_eq_some_iff.1 hMj).2]
          · simp [hij]
        rw [this]; exact h.nodup
      · have := (List.pairwise_map (f := fun e : MapEntry => e.born) (R := (· < ·)) (l := es.toList)).2 h.born
        rw [← hborn] at this
        exact List.pairwise_map.1 this
      · intro e' he'
        have : e'.born ∈ es.toList.map (·.born) := by rw [← hborn]; exact List.mem_map.2 ⟨e', he', rfl⟩
        obtain ⟨e0, he0, hb⟩ := List.mem_map.1 this
        rw [← hb]; exact h.clock e0 he0
    have hstay : (Instr.keyThatStays (((es[j]?).map (·.key)).getD (ek k)) (ek k)).run P w = .ok (ek k) w := by
      have : es[j]? = some e := by rw [← Array.getElem?_toList]; exact hej
      rw [this]
      simp only [Option.map_some, Option.getD_some, hekey]
      exact hk.law.stays w hlx
    refine estep_skip (w' := { w with heap := w.heap.setIfInBounds r (.map (es.modify j fun e => { e with key := ek k, val := ev v }) c) }) ?_ ⟨_, rfl, back _ (s2.mapSet h')⟩
    unfold execOp
    simp only [ho, st.eval hx, st.eval hy, st.eval hz, Instr.mapUpdate, Sem.run_bind, run_underlying hu, Result.andThen_ok, hg, hk.law.check w false hlx, h2, hstay, run_setObj hh (by simp), Sem.run_pure]
theorem EF.delete (hk : KeyTy P kt K ek) {ts : Array TypeId} {k : K} {C : List (K × V) → List HProp} (ho : o.op = .call ⟨.builtin .delete, #[x, y], ts⟩) (hx : opv G x = some (.map (some r))) [u : UpdMap r S K V ek ev M C] (hy : opv G y = some (ek k)) (ht : ts[0]? = some t) (hu : P.underlying t = some (.map kt et)) :
    EF P N G S F o fun _ S2 => S2 = C (adel M k) := fun a w st => by
  obtain ⟨rr, s1, back⟩ := Sat.upd (u.upd (adel M k)) st.sat
  obtain ⟨es, c, s2, h⟩ := s1.mapOpen
  obtain ⟨lx, hlx⟩ := hk.lits k
  have hh := s2.at
  have hg : (getObj r).run P w = .ok (.map es c) w := by unfold getObj; simp [Sem.run, hh]
  have hmap : #[x, y].map a.eval = #[.map (some r), ek k] := by simp [st.eval hx, st.eval hy]
  rcases run_find hk h k w with ⟨h1, h2⟩ | ⟨j, v', e, h2, hMj, hej, hekey, h1⟩
  · refine estep_value (v := .tuple #[]) (w' := { w with heap := w.heap.setIfInBounds r (.map es c) }) ?_ ⟨_, rfl, back _ (s2.mapSet (by rw [adel_none h1]; exact h))⟩
    unfold execOp
    simp only [ho, resolve, hmap]
    simp [invoke, builtin, Builtin.delete_, ht, run_underlying hu, hg, hk.law.check w es.isEmpty hlx, h2, run_setObj hh]
  · obtain ⟨_, _, hdel⟩ := nodup_at h.nodup hMj
    have hlt : j < es.size := by simpa using (List.getElem?_eq_some_iff.1 hej).1
    have hl : (es.eraseIdxIfInBounds j).toList = es.toList.eraseIdx j := by simp [Array.eraseIdxIfInBounds, hlt]
    have h' : MapIs ek ev (es.eraseIdxIfInBounds j) c (adel M k) := by
      rw [hdel]
      refine ⟨?_, ?_, ?_, ?_⟩
      · rw [hl, map_eraseIdx', h.ents, map_eraseIdx']
      · rw [map_eraseIdx']; exact h.nodup.sublist (List.eraseIdx_sublist _ _)
      · rw [hl]; exact h.born.sublist (List.eraseIdx_sublist _ _)
      · intro e he; rw [hl] at he; exact h.clock e ((List.eraseIdx_sublist _ _).subset he)
    refine estep_value (v := .tuple #[]) (w' := { w with heap := w.heap.setIfInBounds r (.map (es.eraseIdxIfInBounds j) c) }) ?_ ⟨_, rfl, back _ (s2.mapSet h')⟩
    unfold execOp
    simp only [ho, resolve, hmap]
    simp [invoke, builtin, Builtin.delete_, ht, run_underlying hu, hg, hk.law.check w es.isEmpty hlx, h2, run_setObj hh]
omit [DecidableEq K] in
theorem EF.makeMap (ek : K → Value) (ev : V → Value) (ho : o.op = .makeMap t none) : EF P N G S F o fun u S' => ∃ r, u = .map (some r) ∧ S' = mapT ek ev r [] :: S := fun a w st => by
  refine estep_value (v := .map (some w.heap.size)) (w' := { w with heap := w.heap.push (.map #[] 0) }) ?_ ⟨_, ⟨_, rfl, rfl⟩, (st.sat.new (.map #[] 0)).mapClose ⟨rfl, by simp, by simp, by simp⟩⟩
  unfold execOp; simp [ho, Instr.makeMap, newObj, Sem.run]
end

/-! ### A range over a map -/
/-- A map that is ranged over: which entries are still to come, which one has come. -/
def rangeT {K V : Type} (ek : K → Value) (ev : V → Value) (r it : Nat) (M todo : List (K × V)) (cur : Option (K × V)) : HProp := fun h =>
  ∃ es c seen, h = PH.union (PH.single r (.map es c)) (PH.single it (.mapIter (some r) c seen c)) ∧ r ≠ it ∧ MapIs ek ev es c M ∧
    (es.toList.filter fun e => !seen.contains e.born).map (fun e => (e.key, e.val)) = todo.map (fun p => (ek p.1, ev p.2)) ∧
    ∀ p, cur = some p → ∃ e ∈ es.toList, seen.back? = some e.born ∧ e.key = ek p.1 ∧ e.val = ev p.2
class HasRange (it : Nat) (S : List HProp) (K V : outParam Type) (ek : outParam (K → Value)) (ev : outParam (V → Value)) (r : outParam Nat) (M todo : outParam (List (K × V))) (cur : outParam (Option (K × V))) : Prop where
  mem : rangeT ek ev r it M todo cur ∈ S
instance HasRange.head {it : Nat} {S : List HProp} {K V : Type} {ek : K → Value} {ev : V → Value} {r : Nat} {M todo : List (K × V)} {cur : Option (K × V)} : HasRange it (rangeT ek ev r it M todo cur :: S) K V ek ev r M todo cur := ⟨List.mem_cons_self⟩
instance (priority := low) HasRange.tail {it : Nat} {A : HProp} {S : List HProp} {K V : Type} {ek : K → Value} {ev : V → Value} {r : Nat} {M todo : List (K × V)} {cur : Option (K × V)} [h : HasRange it S K V ek ev r M todo cur] : HasRange it (A :: S) K V ek ev r M todo cur := ⟨List.mem_cons_of_mem _ h.mem⟩
end Slb
