/- Base 23: a table is opened; a slice that was written out is an argument. -/
import Derived.Test.YtjieokfcpbillaaB22
import Derived.Test.YtjieokfcpbillaaB15
namespace Slb
open Go Go.Proofs
/-! ### A table is opened; a slice that was written out is an argument -/
section
variable {P : Program} {N : Nat} {G : Env} {S S1 : List HProp} {F : Fr} {Φ : Act → World → Prop} {K V : Type} [DecidableEq K] {tr : Nat → List Value} {tty vty : TypeId} {ek : K → Value} {enc : V → List Value} {b : Nat} {M : List (K × V)}
omit [DecidableEq K] in
theorem J.openTab (pk : Pick S (GTab tr tty ek enc vty b M) S1) (j : ∀ r E, vals E = M → (E.map (·.1)).Nodup → J N G (blk b (tr r) tty :: mapT ek pv r (ptrs E) :: rowsA enc vty E :: S1) F Φ) : J N G S F Φ :=
  J.openE pk (fun _ g => GTab.open g) fun x => J.fact Pick.head fun hv => fun a w s => by
    have hnd : (x.2.map (·.1)).Nodup := by
      have := s.sat.mapNodup (M := ptrs x.2) (r := x.1) (ek := ek) (ev := pv) (List.mem_cons_of_mem _ List.mem_cons_self)
      rwa [keys_ptrs] at this
    exact j x.1 x.2 hv hnd a w s
omit [DecidableEq K] in
theorem Sq.openTab {ops : Array Oper} {l : List Nat} {KK : Posts} (pk : Pick S (GTab tr tty ek enc vty b M) S1) (j : ∀ r E, vals E = M → (E.map (·.1)).Nodup → Sq P N ops l KK G (blk b (tr r) tty :: mapT ek pv r (ptrs E) :: rowsA enc vty E :: S1) F) : Sq P N ops l KK G S F := J.openTab pk j
omit [DecidableEq K] in
theorem Dw.openTab {ops : Array Oper} {Ms : List Nat} {q r : Nat} {D : List Nat} {k : Act → World → Prop} (pk : Pick S (GTab tr tty ek enc vty b M) S1) (j : ∀ r1 E, vals E = M → (E.map (·.1)).Nodup → Dw P N ops Ms q r D k G (blk b (tr r1) tty :: mapT ek pv r1 (ptrs E) :: rowsA enc vty E :: S1) F) : Dw P N ops Ms q r D k G S F := J.openTab pk j
theorem look_row {E : List (K × (Nat × V))} {k : K} {s : V} (hv : vals E = M) (h : alook M k = some s) : ∃ c, alook E k = some (c, s) := by
  rw [← hv, alook_vals] at h
  cases h1 : alook E k with
  | none => rw [h1] at h; cases h
  | some x => rw [h1] at h; cases h; exact ⟨x.1, rfl⟩
theorem look_none {E : List (K × (Nat × V))} {k : K} (hv : vals E = M) (h : alook M k = none) : alook E k = none := by
  rw [← hv, alook_vals] at h
  cases h1 : alook E k with
  | none => rfl
  | some x => rw [h1] at h; cases h
theorem ptrs_same {E : List (K × (Nat × V))} {k : K} {c : Nat} {s s' : V} (h : alook E k = some (c, s)) : ptrs (aset E k (c, s')) = ptrs E := by
  rw [ptrs_aset]
  exact aset_same (by rw [alook_ptrs, h]; rfl)
theorem dels_filter (d : V → Bool) (key : V → K) (l : List V) : ∀ E : List (K × (Nat × V)), delsE (fun _ => true) key E (l.filter d) = delsE d key E l := by
  induction l with
  | nil => intro E; rfl
  | cons s l ih =>
    intro E
    rw [List.filter_cons]
    cases h : d s
    · show delsE (fun _ => true) key E (l.filter d) = l.foldl (fun E s => if d s then adel E (key s) else E) (if d s then adel E (key s) else E)
      rw [h]; exact ih E
    · show (l.filter d).foldl (fun E s => if true then adel E (key s) else E) (if true then adel E (key s) else E) = l.foldl (fun E s => if d s then adel E (key s) else E) (if d s then adel E (key s) else E)
      rw [h]; exact ih (adel E (key s))
end
theorem argSl_all {α : Type} {F : Fr} {b z : Nat} {enc : α → List Value} {xs : List α} {ty : TypeId} {fz : Nat × Nat} (hl : ∀ x, (enc x).length = z) (h : F.h b = some (.cells (xs.flatMap enc).toArray ty fz)) : ArgSl F (some ⟨b, 0, none⟩) z enc xs := fun _ =>
  ⟨b, 0, rfl, _, ty, fz, h, [], [], by simp, rfl, flatMap_len hl xs⟩
theorem argSl_one {α : Type} {F : Fr} {b z : Nat} {enc : α → List Value} {x : α} {ty : TypeId} {fz : Nat × Nat} (hl : ∀ x, (enc x).length = z) (h : F.h b = some (.cells (enc x).toArray ty fz)) : ArgSl F (some ⟨b, 0, none⟩) z enc [x] := fun _ =>
  ⟨b, 0, rfl, _, ty, fz, h, [], [], by simp, rfl, flatMap_len hl [x]⟩
theorem argSl_nil {α : Type} {F : Fr} {a : Option Addr} {z : Nat} {enc : α → List Value} : ArgSl F a z enc ([] : List α) := fun h => by simp at h
end Slb
