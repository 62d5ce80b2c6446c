/- Base 19: a table of pointers, its rows owned. -/
import Derived.Test.YtjieokfcpbillaaB18
namespace Slb
open Go Go.Proofs
section
variable {K V : Type} [DecidableEq K]
/-- A table: its own row, its map, what the map's pointers lead to. -/
def GTab (tr : Nat → List Value) (tty : TypeId) (ek : K → Value) (enc : V → List Value) (vty : TypeId) (b : Nat) (M : List (K × V)) : HProp := fun h =>
  ∃ r E, vals E = M ∧ stars (blk b (tr r) tty :: mapT ek pv r (ptrs E) :: rows enc vty E) h
variable {tr : Nat → List Value} {tty : TypeId} {ek : K → Value} {enc : V → List Value} {vty : TypeId} {b : Nat} {M : List (K × V)}
theorem aset_same {M : List (K × V)} {k : K} {v : V} (h : alook M k = some v) : aset M k v = M := by
  obtain ⟨A, B, rfl, hA⟩ := alook_split h
  exact aset_split hA
theorem stars_congr {l m : List HProp} {h : PH} (e : l = m) (s : stars l h) : stars m h := e ▸ s
omit [DecidableEq K] in
theorem GTab.open {h : PH} (g : GTab tr tty ek enc vty b M h) : ∃ x : Nat × List (K × (Nat × V)), stars [fact (vals x.2 = M), blk b (tr x.1) tty, mapT ek pv x.1 (ptrs x.2), rowsA enc vty x.2] h := by
  obtain ⟨r, E, hv, hs⟩ := g
  refine ⟨(r, E), PH.none, h, PH.none_disj h, (PH.none_union h).symm, ⟨hv, rfl⟩, ?_⟩
  exact (stars_append (l := [blk b (tr r) tty, mapT ek pv r (ptrs E)]) (m := [rowsA enc vty E])).2 (star_mono (fun _ x => x) (fun _ x => star_emp x) ((stars_append (l := [blk b (tr r) tty, mapT ek pv r (ptrs E)]) (m := rows enc vty E)).1 hs))
omit [DecidableEq K] in
theorem GTab.close {r : Nat} {E : List (K × (Nat × V))} (hv : vals E = M) {h : PH} (hs : stars [blk b (tr r) tty, mapT ek pv r (ptrs E), rowsA enc vty E] h) : GTab tr tty ek enc vty b M h := by
  refine ⟨r, E, hv, ?_⟩
  exact (stars_append (l := [blk b (tr r) tty, mapT ek pv r (ptrs E)]) (m := rows enc vty E)).2 (star_mono (fun _ x => x) (fun _ x => of_star_emp x) ((stars_append (l := [blk b (tr r) tty, mapT ek pv r (ptrs E)]) (m := [rowsA enc vty E])).1 hs))
theorem rowsA_out {E : List (K × (Nat × V))} {k : K} {c : Nat} {s : V} (h : alook E k = some (c, s)) {p : PH} (hr : rowsA enc vty E p) : star (blk c (enc s) vty) (rowsA enc vty (adel E k)) p := by
  obtain ⟨A, B, rfl, hA⟩ := alook_split h
  rw [adel_split hA]
  unfold rowsA at hr ⊢
  have : (rows enc vty (A ++ (k, (c, s)) :: B)).Perm (blk c (enc s) vty :: rows enc vty (A ++ B)) := by
    simp only [rows_append]
    exact List.perm_middle
  exact stars_perm this hr
theorem rowsA_in {E : List (K × (Nat × V))} {k : K} {c : Nat} {s s' : V} (h : alook E k = some (c, s)) {p : PH} (hr : star (blk c (enc s') vty) (rowsA enc vty (adel E k)) p) : rowsA enc vty (aset E k (c, s')) p := by
  obtain ⟨A, B, rfl, hA⟩ := alook_split h
  rw [adel_split hA] at hr
  rw [aset_split hA]
  unfold rowsA at hr ⊢
  have : (blk c (enc s') vty :: rows enc vty (A ++ B)).Perm (rows enc vty (A ++ (k, (c, s')) :: B)) := by
    simp only [rows_append]
    exact List.perm_middle.symm
  exact stars_perm this hr
/-- One of the rows is taken out. -/
theorem GTab.openAt {k : K} {s : V} (h0 : alook M k = some s) {h : PH} (g : GTab tr tty ek enc vty b M h) :
    ∃ x : Nat × List (K × (Nat × V)) × Nat, stars [fact (vals x.2.1 = M ∧ alook x.2.1 k = some (x.2.2, s)), blk b (tr x.1) tty, mapT ek pv x.1 (ptrs x.2.1), blk x.2.2 (enc s) vty, rowsA enc vty (adel x.2.1 k)] h := by
  obtain ⟨r, E, hv, hs⟩ := g
  have hE : ∃ c, alook E k = some (c, s) := by
    rw [← hv, alook_vals] at h0
    cases e : alook E k with
    | none => rw [e] at h0; cases h0
    | some x => rw [e] at h0; obtain ⟨c, s'⟩ := x; simp at h0; subst h0; exact ⟨c, rfl⟩
  obtain ⟨c, hc⟩ := hE
  refine ⟨(r, E, c), PH.none, h, PH.none_disj h, (PH.none_union h).symm, ⟨⟨hv, hc⟩, rfl⟩, ?_⟩
  refine (stars_append (l := [blk b (tr r) tty, mapT ek pv r (ptrs E)]) (m := [blk c (enc s) vty, rowsA enc vty (adel E k)])).2 (star_mono (fun _ x => x) (fun _ x => ?_) ((stars_append (l := [blk b (tr r) tty, mapT ek pv r (ptrs E)]) (m := rows enc vty E)).1 hs))
  exact star_mono (fun _ x => x) (fun _ x => star_emp x) (rowsA_out hc x)
/-- It is put back, changed. -/
theorem GTab.closeAt {k : K} {s s' : V} {r : Nat} {E : List (K × (Nat × V))} {c : Nat} (hx : vals E = M ∧ alook E k = some (c, s)) {h : PH} (hs : stars [blk b (tr r) tty, mapT ek pv r (ptrs E), blk c (enc s') vty, rowsA enc vty (adel E k)] h) : GTab tr tty ek enc vty b (aset M k s') h := by
  obtain ⟨hv, hc⟩ := hx
  have hp : ptrs (aset E k (c, s')) = ptrs E := by
    rw [ptrs_aset]
    exact aset_same (by rw [alook_ptrs, hc]; rfl)
  refine ⟨r, aset E k (c, s'), by rw [vals_aset, hv], ?_⟩
  rw [hp]
  refine (stars_append (l := [blk b (tr r) tty, mapT ek pv r (ptrs E)]) (m := rows enc vty (aset E k (c, s')))).2 (star_mono (fun _ x => x) (fun _ x => ?_) ((stars_append (l := [blk b (tr r) tty, mapT ek pv r (ptrs E)]) (m := [blk c (enc s') vty, rowsA enc vty (adel E k)])).1 hs))
  exact rowsA_in hc (star_mono (fun _ x => x) (fun _ x => of_star_emp x) x)
end
section
variable {P : Program} {N : Nat} {G : Env} {S : List HProp} {F : Fr} {ops : Array Oper} {M : List Nat} {q r : Nat} {D : List Nat} {k : Act → World → Prop}
theorem Dw.openE {α : Type} {A : HProp} {r1 : List HProp} {T : α → List HProp} (t : Pick S A r1) (h : ∀ h, A h → ∃ x, stars (T x) h) (j : ∀ x, Dw P N ops M q r D k G (T x ++ r1) F) : Dw P N ops M q r D k G S F := J.openE t h j
theorem Dw.fact {p : Prop} {r1 : List HProp} (t : Pick S (Slb.fact p) r1) (j : p → Dw P N ops M q r D k G r1 F) : Dw P N ops M q r D k G S F := J.fact t j
theorem Dw.app {a b c : List HProp} [App a b c] (j : Dw P N ops M q r D k G c F) : Dw P N ops M q r D k G (a ++ b) F := J.app j
theorem Dw.close {A : HProp} {m r1 : List HProp} (t : Takes S m r1) (h : ∀ h, stars m h → A h) (j : Dw P N ops M q r D k G (A :: r1) F) : Dw P N ops M q r D k G S F := J.close t h j
variable {l : List Nat} {KK : Posts}
theorem Sq.openE {α : Type} {A : HProp} {r1 : List HProp} {T : α → List HProp} (t : Pick S A r1) (h : ∀ h, A h → ∃ x, stars (T x) h) (j : ∀ x, Sq P N ops l KK G (T x ++ r1) F) : Sq P N ops l KK G S F := J.openE t h j
theorem Sq.fact {p : Prop} {r1 : List HProp} (t : Pick S (Slb.fact p) r1) (j : p → Sq P N ops l KK G r1 F) : Sq P N ops l KK G S F := J.fact t j
theorem Sq.app {a b c : List HProp} [App a b c] (j : Sq P N ops l KK G c F) : Sq P N ops l KK G (a ++ b) F := J.app j
theorem Sq.close {A : HProp} {m r1 : List HProp} (t : Takes S m r1) (h : ∀ h, stars m h → A h) (j : Sq P N ops l KK G (A :: r1) F) : Sq P N ops l KK G S F := J.close t h j
theorem Sq.slEq {α : Type} {e : TypeId} {z : Nat} {enc : α → List Value} {v : Value} {S1 : List HProp} {xs ys : List α} (pk : Pick S (slA e z enc v xs) S1) (h : xs = ys) (j : Sq P N ops l KK G (slA e z enc v ys :: S1) F) : Sq P N ops l KK G S F := J.slEq pk h j
theorem Sq.addSl (e : TypeId) (z : Nat) {α : Type} (enc : α → List Value) (j : Sq P N ops l KK G (slA e z enc (.slice none 0 0) [] :: S) F) : Sq P N ops l KK G S F := J.addSl e z enc j
end
end Slb
