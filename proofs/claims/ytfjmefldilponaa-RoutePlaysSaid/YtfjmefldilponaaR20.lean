/- R20: a part of the proof that a law of this package holds for every input; no condition. -/
import Derived.Test.YtfjmefldilponaaR19
namespace Slb
open Go Go.Proofs
set_option maxRecDepth 20000
theorem fes {es : EntR} {L : List Route} (hL : es.map (fun e => e.2.2) = L) (p : Route → Bool) : ((es.filter fun e => p e.2.2).map fun e => e.2.2) = L.filter p := by
  rw [← hL, List.filter_map]; rfl
theorem selectedT (F : Fr) {b : Nat} {most : Int} {M : TabR} {L : List Route} (h : OrdR M L) (hM : M.length ≤ 1000000) (p : Pair) : Spec Try.prog 22 #[.pointer (some ⟨b, 0, none⟩), .agg (Pair.enc p).toArray] [RTab b most M] F
    fun v S => v = .tuple #[.agg (Route.enc (((L.filter (selP p)).head?).getD Route.zero)).toArray, .bool (decide (0 < (L.filter (selP p)).length))] ∧ S = [RTab b most M] := by
  refine (gtab_spec (A := []) (Q := fun v M' B => v = .tuple #[.agg (Route.enc (((L.filter (selP p)).head?).getD Route.zero)).toArray, .bool (decide (0 < (L.filter (selP p)).length))] ∧ M' = M ∧ B = []) fun F' r E h1 h2 hv hnd hle => ?_).mono ?_
  · refine (selectedQ F' ⟨h1, h2⟩ (by rw [← hv, lenR] at hM; exact hM) p).mono ?_
    rintro v S ⟨es, h3, h4, h5, rfl⟩
    rw [fes (L_es h hv h3 h4)] at h5
    exact ⟨E, [], [], ⟨h5, hv, rfl⟩, perm_sameR⟩
  · rintro v S ⟨M', B, ⟨h1, rfl, rfl⟩, rfl⟩; exact ⟨h1, rfl⟩
theorem ofT (F : Fr) {b : Nat} {most : Int} {M : TabR} {L : List Route} (h : OrdR M L) (hM : M.length ≤ 1000000) (p : Pair) : Spec Try.prog 26 #[.pointer (some ⟨b, 0, none⟩), .agg (Pair.enc p).toArray] [RTab b most M] F
    fun v S => S = [RTab b most M, slA 37 81 Route.enc v (L.filter (ofP p))] := by
  refine (gtab_spec (A := []) (Q := fun v M' B => M' = M ∧ B = [slA 37 81 Route.enc v (L.filter (ofP p))]) fun F' r E h1 h2 hv hnd hle => ?_).mono ?_
  · refine (ofQ F' ⟨h1, h2⟩ (by rw [← hv, lenR] at hM; exact hM) p).mono ?_
    rintro v S ⟨es, h3, h4, rfl⟩
    rw [fes (L_es h hv h3 h4)]
    exact ⟨E, _, [], ⟨hv, rfl⟩, perm_sameR⟩
  · rintro v S ⟨M', B, ⟨rfl, rfl⟩, rfl⟩; rfl
theorem pairsT (F : Fr) {b : Nat} {most : Int} {M : TabR} {L : List Route} (h : OrdR M L) (hM : M.length ≤ 1000000) : Spec Try.prog 29 #[.pointer (some ⟨b, 0, none⟩)] [RTab b most M] F
    fun v S => S = [RTab b most M, slA 32 34 Pair.enc v (compL (L.map Route.pair))] := by
  refine (gtab_spec (A := []) (Q := fun v M' B => M' = M ∧ B = [slA 32 34 Pair.enc v (compL (L.map Route.pair))]) fun F' r E h1 h2 hv hnd hle => ?_).mono ?_
  · refine (pairsQ F' ⟨h1, h2⟩ (by rw [← hv, lenR] at hM; exact hM)).mono ?_
    rintro v S ⟨es, h3, h4, rfl⟩
    have e : (es.map fun e => e.2.2.pair) = L.map Route.pair := by rw [← L_es h hv h3 h4, List.map_map]; rfl
    rw [e]
    exact ⟨E, _, [], ⟨hv, rfl⟩, perm_sameR⟩
  · rintro v S ⟨M', B, ⟨rfl, rfl⟩, rfl⟩; rfl
theorem nextT (F : Fr) {b : Nat} {most : Int} {M : TabR} {L : List Route} (h : OrdR M L) (hM : M.length ≤ 1000000) : Spec Try.prog 24 #[.pointer (some ⟨b, 0, none⟩)] [RTab b most M] F
    fun v S => ∃ n ok, v = .tuple #[.int .i64 n, .bool ok] ∧ NextIs L n ok ∧ S = [RTab b most M] := by
  refine (gtab_spec (A := []) (Q := fun v M' B => ∃ n ok, v = .tuple #[.int .i64 n, .bool ok] ∧ NextIs L n ok ∧ M' = M ∧ B = []) fun F' r E h1 h2 hv hnd hle => ?_).mono ?_
  · refine (nextR F' ⟨h1, h2⟩ (by rw [← hv, lenR] at hM; exact hM)).mono ?_
    rintro v S ⟨es, h3, h4, n, ok, h5, h6, rfl⟩
    rw [L_es h hv h3 h4] at h6
    exact ⟨E, [], [], ⟨n, ok, h5, h6, hv, rfl⟩, perm_sameR⟩
  · rintro v S ⟨M', B, ⟨n, ok, h1, h2, rfl, rfl⟩, rfl⟩; exact ⟨n, ok, h1, h2, rfl⟩
theorem dropT (F : Fr) {b : Nat} {most : Int} {M : TabR} {L : List Route} (h : OrdR M L) (hM : M.length ≤ 1000000) (j : Int) {a : Option Addr} {xs : List (Bs 16)} {c : Nat} (hlen : xs.length ≤ 4294967296) (ha : ArgSl F a 16 Bs.enc xs) :
    Spec Try.prog 34 #[.pointer (some ⟨b, 0, none⟩), .int .i64 j, .slice a xs.length c] [RTab b most M] F
    fun v S => S = [RTab b most (M.filter fun e => !dropP j xs e.2), slA 37 81 Route.enc v (L.filter (dropP j xs))] := by
  refine (gtab_spec (A := []) (Q := fun v M' B => M' = (M.filter fun e => !dropP j xs e.2) ∧ B = [slA 37 81 Route.enc v (L.filter (dropP j xs))]) fun F' r E h1 h2 hv hnd hle => ?_).mono ?_
  · refine (dropQ F' ⟨h1, h2⟩ (by rw [← hv, lenR] at hM; exact hM) j hlen (ha.mono hle)).mono ?_
    rintro v S ⟨es, h3, h4, rfl⟩
    have hL := L_es h hv h3 h4
    rw [fes hL]
    obtain ⟨rr, hrr⟩ := rows_delsE (fun _ => true) keyR Route.enc 37 (L.filter (dropP j xs)) E
    refine ⟨delsE (fun _ => true) keyR E (L.filter (dropP j xs)), [slA 37 81 Route.enc v (L.filter (dropP j xs))], rr, ⟨?_, rfl⟩, ?_⟩
    · rw [dels_filter, vals_delsE, hv]
      exact delsM_all hnd h.keyed h.perm
    · simp only [List.cons_append, List.nil_append] at hrr ⊢
      refine List.Perm.cons _ ?_
      have h5 : (slA 37 81 Route.enc v (L.filter (dropP j xs)) :: rows Route.enc 37 E).Perm (slA 37 81 Route.enc v (L.filter (dropP j xs)) :: (rows Route.enc 37 (delsE (fun _ => true) keyR E (L.filter (dropP j xs))) ++ rr)) := List.Perm.cons _ hrr
      exact h5.trans List.perm_middle.symm
  · rintro v S ⟨M', B, ⟨rfl, rfl⟩, rfl⟩; rfl
/-- What selecting makes of the table. -/
def selM (M : TabR) (p : Pair) (j : I64) (fr : Bs 16) : TabR := match alook M ⟨p, j, fr⟩ with
  | none => M
  | some s => aset (mapM (unsR [p]) M) ⟨p, j, fr⟩ { unsR [p] s with selected := true }
def selE (M : TabR) (p : Pair) (j : I64) (fr : Bs 16) : Int := match alook M ⟨p, j, fr⟩ with
  | none => 7
  | some _ => 0
theorem selectT (F : Fr) {b : Nat} {most : Int} {M : TabR} (hM : M.length ≤ 1000000) (p : Pair) (j : I64) (fr : Bs 16) :
    Spec Try.prog 32 #[.pointer (some ⟨b, 0, none⟩), .agg (Pair.enc p).toArray, .int .i64 j.val, .agg (Bs.enc fr).toArray] [RTab b most M] F
    fun v S => v = .int .i64 (selE M p j fr) ∧ S = [RTab b most (selM M p j fr)] := by
  unfold selE selM
  cases h0 : alook M ⟨p, j, fr⟩ with
  | none => exact selectT_none F p j fr h0
  | some s => exact selectT_some F hM p j fr h0
/-! ### The same of the list -/
theorem tell_ord {most : Int} {M : TabR} {L L2 : List Route} {now : Int} {x : Route} {ok : Bool} {a e : Int} (h : OrdR M L) (hr : RTell most L now x ok a e L2) : (tellF most M now x ok).1 = a ∧ (tellF most M now x ok).2.1 = e ∧ OrdR (tellF most M now x ok).2.2 L2 := by
  unfold tellF
  rcases hr with ⟨i, s, hi, hk, rfl, rfl, rfl⟩ | ⟨hh, rfl, rfl, rfl⟩ | ⟨hno, rfl, rfl, h1⟩
  · have hl : alook M (keyR x) = some s := h.look_iff.2 ⟨List.mem_of_getElem? hi, hk⟩
    rw [hl]
    simp only [true_and]
    have hks : keyR (tellOld now s x ok).2.2 = keyR x := by
      unfold tellOld; split
      · exact hk
      · split
        · exact hk
        · split
          · exact hk
          · exact hk
    have := h.set (v := (tellOld now s x ok).2.2) keyCmpR hks hi hk
    exact this
  · cases hl : alook M (keyR x) with
    | none => simp only [tellNew, if_pos hh]; exact ⟨trivial, trivial, h⟩
    | some s =>
      have h2 := h.look_iff.1 hl
      simp only [tellOld, if_pos hh]
      refine ⟨trivial, trivial, ?_⟩
      rw [aset_same hl]; exact h
  · have hl : alook M (keyR x) = none := h.look_none.2 hno
    rw [hl]
    simp only
    rw [← h.length]
    rcases h1 with ⟨h2, rfl⟩ | ⟨h2, j, hj, hb, ht, rfl⟩
    · rw [h2]; exact ⟨rfl, rfl, h⟩
    · rw [h2]
      refine ⟨rfl, rfl, ?_⟩
      exact h.ins rfl hl hb fun y hy => (keyCmpR.neg _ _).2 (ht y hy)
theorem tell_len {most : Int} {L L2 : List Route} {now : Int} {x : Route} {ok : Bool} {a e : Int} (hr : RTell most L now x ok a e L2) : L2.length ≤ L.length + 1 := by
  rcases hr with ⟨i, s, hi, hk, rfl, rfl, rfl⟩ | ⟨hh, rfl, rfl, rfl⟩ | ⟨hno, rfl, rfl, ⟨h2, rfl⟩ | ⟨h2, j, hj, hb, ht, rfl⟩⟩
  · simp
  · omega
  · omega
  · simp; omega
theorem sel_ord {M : TabR} {L : List Route} (h : OrdR M L) (p : Pair) (j : I64) (fr : Bs 16) {i : Nat} {s : Route} (hi : L[i]? = some s) (hk : keyR s = ⟨p, j, fr⟩) : OrdR (selM M p j fr) (L.map (selR p j fr)) := by
  have hl : alook M ⟨p, j, fr⟩ = some s := h.look_iff.2 ⟨List.mem_of_getElem? hi, hk⟩
  unfold selM
  rw [hl]
  have h1 := ord_map (uns_key [p]) h
  have hi1 : (L.map (unsR [p]))[i]? = some (unsR [p] s) := by rw [List.getElem?_map, hi]; rfl
  have hk1 : keyR (unsR [p] s) = ⟨p, j, fr⟩ := by rw [uns_key, hk]
  have h2 := h1.set (v := { unsR [p] s with selected := true }) keyCmpR (show keyR { unsR [p] s with selected := true } = ⟨p, j, fr⟩ from hk1) hi1 hk1
  have e : (L.map (unsR [p])).set i { unsR [p] s with selected := true } = L.map (selR p j fr) := by
    refine List.ext_getElem? fun m => ?_
    rw [List.getElem?_map]
    by_cases hm : m = i
    · subst hm
      rw [List.getElem?_set_self (by rw [List.length_map]; exact (List.getElem?_eq_some_iff.1 hi).1), hi]
      simp only [Option.map_some]
      congr 1
      have hp : s.pair = p := congrArg RouteKey.p hk
      have hj : s.if_ = j := congrArg RouteKey.i hk
      have hf : s.from_ = fr := congrArg RouteKey.from_ hk
      unfold selR unsR
      rw [if_pos hp]
      have : unsP [p] s = s.selected := by simp [unsP, hp]
      have hd : (decide (s.if_.val = j.val) && decide (s.from_ = fr)) = true := by rw [hj, hf]; simp
      rw [this, hd]
      split <;> rfl
    · rw [List.getElem?_set_ne (fun h => hm h.symm), List.getElem?_map]
      cases hx : L[m]? with
      | none => rfl
      | some x =>
        simp only [Option.map_some]
        congr 1
        unfold selR unsR unsP
        by_cases hp : x.pair = p
        · rw [if_pos hp]
          have hne : ¬ (x.if_.val = j.val ∧ x.from_ = fr) := fun hc => by
            have hxs : x = s := h.inj (List.mem_of_getElem? hx) (List.mem_of_getElem? hi) (by rw [hk]; exact keyR_eq hp hc.1 hc.2)
            subst hxs
            exact hm ((List.getElem?_inj (List.getElem?_eq_some_iff.1 hx).1 (h.nodupL keyCmpR)).1 (hx.trans hi.symm))
          have hd : (decide (x.if_.val = j.val) && decide (x.from_ = fr)) = false := by
            rw [Bool.and_eq_false_iff, decide_eq_false_iff_not, decide_eq_false_iff_not]
            by_cases h3 : x.if_.val = j.val
            · exact .inr fun h4 => hne ⟨h3, h4⟩
            · exact .inl h3
          rw [hd]
          cases hs : x.selected
          · simp only [Bool.false_and, Bool.false_eq_true, if_false]
            cases x; simp only at hs; subst hs; rfl
          · simp [hp]
        · rw [if_neg hp]
          simp [hp]
  rw [← e]; exact h2

/-! ### The pairs that are new -/
theorem compT_pre {α : Type} [DecidableEq α] {xs ys : List α} : ∀ {j : Nat}, (∀ i, i < j → xs[i]? = ys[i]?) → compT xs j = compT ys j
  | 0, _ => rfl
  | j + 1, h => by
    have h1 := h j (by omega)
    have h2 := compT_pre (fun i hi => h i (Nat.lt_succ_of_lt hi))
    simp only [compT, h1, h2]
    cases hy : ys[j]? with
    | none => rfl
    | some y =>
      simp only
      by_cases h0 : 0 < j
      · rw [h (j - 1) (by omega)]
      · have : ¬ (0 < j ∧ xs[j - 1]? = some y) := fun hc => h0 hc.1
        have h4 : ¬ (0 < j ∧ ys[j - 1]? = some y) := fun hc => h0 hc.1
        rw [if_neg this, if_neg h4]
theorem compL_push {α : Type} [DecidableEq α] (xs : List α) (x : α) : compL (xs ++ [x]) = if xs.getLast? = some x then compL xs else compL xs ++ [x] := by
  unfold compL
  rw [List.length_append]
  show compT (xs ++ [x]) (xs.length + 1) = _
  have h1 : (xs ++ [x])[xs.length]? = some x := by simp
  have h2 : compT (xs ++ [x]) xs.length = compT xs xs.length := compT_pre fun i hi => List.getElem?_append_left hi
  simp only [compT, h1, h2]
  by_cases h0 : 0 < xs.length
  · have h3 : (xs ++ [x])[xs.length - 1]? = xs.getLast? := by rw [List.getElem?_append_left (by omega), List.getLast?_eq_getElem?]
    rw [h3]
    simp only [h0, true_and]
  · have : xs = [] := List.eq_nil_of_length_eq_zero (by omega)
    subst this
    simp
theorem compL_last {α : Type} [DecidableEq α] (xs : List α) : (compL xs).getLast? = xs.getLast? := by
  suffices h : ∀ n (xs : List α), xs.length = n → (compL xs).getLast? = xs.getLast? from h _ xs rfl
  intro n
  induction n with
  | zero => intro xs h; have := List.eq_nil_of_length_eq_zero h; subst this; rfl
  | succ n ih =>
    intro xs h
    rcases List.eq_nil_or_concat xs with rfl | ⟨ys, x, rfl⟩
    · simp at h
    · rw [List.concat_eq_append] at h ⊢
      rw [compL_push]
      have hy : ys.length = n := by simpa using h
      split
      · rename_i hl
        rw [ih ys hy, hl]; simp
      · simp
theorem compL_nil_iff {α : Type} [DecidableEq α] {xs : List α} : (compL xs).length = 0 ↔ xs.length = 0 := by
  have h := compL_last xs
  constructor
  · intro h0
    rw [List.eq_nil_of_length_eq_zero h0] at h
    cases xs with
    | nil => rfl
    | cons y ys => rw [List.getLast?_cons] at h; cases h
  · intro h0
    rw [List.eq_nil_of_length_eq_zero h0]; rfl
theorem compL_len {α : Type} [DecidableEq α] (xs : List α) : (compL xs).length ≤ xs.length := compT_le _ _
/-- The pairs that are new among the first i. -/
def newPs (L : List Route) (i : Nat) : List Pair := ((L.take i).filter newM).map Route.pair
theorem newPs_old {L : List Route} {i : Nat} {x : Route} (h : L[i]? = some x) (hn : newM x = false) : newPs L (i + 1) = newPs L i := by
  unfold newPs; rw [fm_succ newM Route.pair h, hn]; simp
theorem newPs_new {L : List Route} {i : Nat} {x : Route} (h : L[i]? = some x) (hn : newM x = true) : newPs L (i + 1) = newPs L i ++ [x.pair] := by
  unfold newPs; rw [fm_succ newM Route.pair h, hn]; simp
theorem want_none {L : List Route} {i : Nat} {x : Route} (h : L[i]? = some x) (hn : newM x = true) (h0 : (compL (newPs L i)).length = 0) : compL (newPs L (i + 1)) = compL (newPs L i) ++ [x.pair] := by
  rw [newPs_new h hn, compL_push]
  have := compL_nil_iff.1 h0
  have := List.eq_nil_of_length_eq_zero this
  rw [this]; simp
theorem want_some {L : List Route} {i : Nat} {x : Route} {q : Pair} (h : L[i]? = some x) (hn : newM x = true) (hq : (compL (newPs L i))[(compL (newPs L i)).length - 1]? = some q) : compL (newPs L (i + 1)) = if q = x.pair then compL (newPs L i) else compL (newPs L i) ++ [x.pair] := by
  rw [newPs_new h hn, compL_push]
  rw [← List.getLast?_eq_getElem?, compL_last] at hq
  rw [hq]
  simp only [Option.some.injEq]
theorem want_len (L : List Route) (i : Nat) : (compL (newPs L i)).length ≤ L.length := by
  refine Nat.le_trans (compL_len _) ?_
  unfold newPs
  rw [List.length_map]
  refine Nat.le_trans (List.length_filter_le _ _) ?_
  rw [List.length_take]; omega
/-- An act on the table. -/
def actM (most : Int) (M : TabR) (now : Int) (x : Law16Act) : TabR :=
  if x.kind = 0 then (tellF most M now x.r x.ok).2.2 else if x.kind = 1 then mapM (retrR now x.r.if_.val x.r.from_) M else if x.kind = 2 then mapM recR M
  else if x.kind = 3 then selM M x.r.pair x.r.if_ x.r.from_ else if x.kind = 4 then mapM (unsR [x.r.pair]) M else if x.kind = 5 then tickM now M
  else if x.kind = 6 then M.filter fun e => !dropP x.r.if_.val [] e.2 else if x.kind = 7 then M.filter fun e => !dropP x.r.if_.val [x.r.from_] e.2 else M
theorem uns_two (p : Pair) : unsP [p, p] = unsP [p] := by funext s; simp [unsP]
theorem drop_two (j : Int) (f : Bs 16) : dropP j [f, f] = dropP j [f] := by funext s; simp [dropP]
theorem unsR_two (p : Pair) : unsR [p, p] = unsR [p] := by funext s; simp [unsR, uns_two]
theorem filterMap_not {α β : Type} (p : α → Bool) (f : α → β) (l : List α) : (l.filterMap fun x => if p x then none else some (f x)) = (l.filter fun x => !p x).map f := by
  induction l with
  | nil => rfl
  | cons x l ih => cases h : p x <;> simp [h, ih]
theorem tickM_eq (now : Int) (M : TabR) : tickM now M = mapM (agedR now) (M.filter fun e => !goneR now e.2) := by
  have := filterMap_not (fun e : RouteKey × Route => goneR now e.2) (fun e => (e.1, agedR now e.2)) M
  unfold mapM
  rw [← this]
  unfold tickM
  congr 1
  funext e
  unfold tickG
  split <;> rfl
theorem tick_ord (now : Int) {M : TabR} {L : List Route} (h : OrdR M L) : OrdR (tickM now M) (L.filterMap (tickG now)) := by
  rw [tickM_eq]
  have e : L.filterMap (tickG now) = (L.filter fun s => !goneR now s).map (agedR now) := by
    rw [← filterMap_not (goneR now) (agedR now) L]
    rfl
  rw [e]
  exact ord_map (aged_key now) (h.filter fun s => !goneR now s)
end Slb
