/- Base 26: tables of whole values: what is looked up; the keys in order. -/
import Derived.Test.YtjieokfcpbillaaB21
namespace Slb
open Go Go.Proofs
section
variable {P : Program} {N : Nat} {G : Env} {S : List HProp} {F : Fr} {o : Oper} {t kt et : TypeId} {x y : Operand} {r : Nat} {K V : Type} [DecidableEq K] {ek : K → Value} {ev : V → Value} {M : List (K × V)}
theorem QR.lookupV (hk : KeyTy P kt K ek) (ho : o.op = .lookup t x y false) (hx : opv G x = some (.map (some r))) [hm : HasMap r S K V ek ev M] {k : K} (hy : opv G y = some (ek k)) (hu : P.underlying t = some (.map kt et)) {z : V} (hz : Zero P et (ev z)) :
    QR P N G S F o (ev ((alook M k).getD z)) := by
  have := QR.lookup (N := N) (G := G) (S := S) (F := F) (hm := hm) hk ho hx hy hu hz
  cases h : alook M k with
  | none => rw [h] at this; exact this
  | some v => rw [h] at this; exact this
theorem QR.lookup2V (hk : KeyTy P kt K ek) (ho : o.op = .lookup t x y true) (hx : opv G x = some (.map (some r))) [hm : HasMap r S K V ek ev M] {k : K} (hy : opv G y = some (ek k)) (hu : P.underlying t = some (.map kt et)) {z : V} (hz : Zero P et (ev z)) :
    QR P N G S F o (.tuple #[ev ((alook M k).getD z), .bool (alook M k).isSome]) := by
  have := QR.lookup2 (N := N) (G := G) (S := S) (F := F) (hm := hm) hk ho hx hy hu hz
  cases h : alook M k with
  | none => rw [h] at this; exact this
  | some v => rw [h] at this; exact this
end
section
variable {K V : Type} [DecidableEq K] {key : V → K} {cf : V → V → Int} {M : List (K × V)} {L : List V}
omit [DecidableEq K] in
theorem InOrder.keys {c : K → K → Int} (tc : TotCmp c) (hc : ∀ x y, cf x y = c (key x) (key y)) (h : InOrder key cf M L) {ks : List K} (hp : ks.Perm (M.map (·.1))) (hs : ks.Pairwise fun a b => ¬ c b a < 0) : ks = L.map key := by
  have h1 : M.map (·.1) = (M.map (·.2)).map key := by
    rw [List.map_map]
    exact List.map_congr_left fun e he => h.keyed e he
  have h2 : (L.map key).Perm (M.map (·.1)) := by rw [h1]; exact h.perm.map key
  have hs2 : (L.map key).Pairwise fun a b => ¬ c b a < 0 := List.pairwise_map.2 (h.sort.imp fun {a b} hab hba => by
    rw [hc] at hab
    have := (tc.neg (key a) (key b)).1 hab
    omega)
  refine List.Perm.eq_of_pairwise (le := fun a b => ¬ c b a < 0) (fun a b _ _ h3 h4 => ?_) hs hs2 (hp.trans h2.symm)
  refine (tc.eq a b).1 ?_
  have h5 := tc.neg b a
  by_cases h6 : 0 < c a b
  · exact absurd (h5.2 h6) h3
  · omega
end
/-- The same table, said otherwise. -/
theorem J.mapEq {N : Nat} {G : Env} {S S1 : List HProp} {F : Fr} {Φ : Act → World → Prop} {K V : Type} {ek : K → Value} {ev : V → Value} {r : Nat} {M M' : List (K × V)} (pk : Pick S (mapT ek ev r M) S1) (h : M = M') (j : J N G (mapT ek ev r M' :: S1) F Φ) : J N G S F Φ := by
  subst h
  exact j.conseq fun _ s => s.perm pk.perm
end Slb
