/- J18: a part of the proof that a law of this package holds for every input; no condition. -/
import Derived.Test.YtfokodhfjdhdaaaGreatJ15
/- packet: the plain laws: pieces one behind the other, padding, what stands behind (P18): behind P17. -/
namespace Slb
open Go Go.Proofs
theorem rdTake_ok {l : List UInt8} {n : Nat} (h : n ≤ l.length) : rdTake ⟨l, 0⟩ n = (l.take n, ⟨l.drop n, 0⟩) := by
 unfold rdTake
 rw [if_neg (by simp), if_neg (by omega), if_neg (by simp only; omega)]
 simp
theorem rdTake_bad {l : List UInt8} {n : Nat} (h : l.length < n) : (rdTake ⟨l, 0⟩ n).2.e = 3 := by
 unfold rdTake
 rw [if_neg (by simp), if_neg (by omega), if_pos (by simp only; omega)]
theorem u8F_cons (c : UInt8) (l : List UInt8) : u8F ⟨c :: l, 0⟩ = (c.toNat : Int) := by
 unfold u8F
 rw [show (1 : Int) = ((1 : Nat) : Int) from rfl, rdTake_ok (by simp)]
 simp [numN]
theorem take1 (c : UInt8) (l : List UInt8) : (rdTake ⟨c :: l, 0⟩ 1).2 = ⟨l, 0⟩ := by
 rw [show (1 : Int) = ((1 : Nat) : Int) from rfl, rdTake_ok (by simp)]
 rfl
theorem u16F_cons (c d : UInt8) (l : List UInt8) : u16F ⟨c :: d :: l, 0⟩ = (c.toNat * 256 + d.toNat : Nat) := by
 unfold u16F
 rw [show (2 : Int) = ((2 : Nat) : Int) from rfl, rdTake_ok (by simp)]
 simp [numN]
theorem take2 (c d : UInt8) (l : List UInt8) : (rdTake ⟨c :: d :: l, 0⟩ 2).2 = ⟨l, 0⟩ := by
 rw [show (2 : Int) = ((2 : Nat) : Int) from rfl, rdTake_ok (by simp)]
 rfl
theorem open_cons (a b c d : UInt8) (l : List UInt8) : openF (a :: b :: c :: d :: l) = if (a.toNat : Int) ≠ 42 then ([], 50) else if (b.toNat : Int) ≠ 2 then ([], 51) else if ((c.toNat * 256 + d.toNat : Nat) : Int) > l.length then ([], 52) else (l.take (c.toNat * 256 + d.toNat), 0) := by
 unfold openF
 simp only [take1, take2, u8F_cons, u16F_cons]
 rw [if_neg (by simp)]
 by_cases h1 : (a.toNat : Int) ≠ 42
 · rw [if_pos h1, if_pos h1]
 · rw [if_neg h1, if_neg h1]
   by_cases h2 : (b.toNat : Int) ≠ 2
   · rw [if_pos h2, if_pos h2]
   · rw [if_neg h2, if_neg h2]
     by_cases h3 : ((c.toNat * 256 + d.toNat : Nat) : Int) > l.length
     · rw [if_pos h3, if_pos h3]
     · rw [if_neg h3, if_neg h3, rdTake_ok (by omega)]
theorem ofNat_toNat8 (n : Nat) : (UInt8.ofNat n).toNat = n % 256 := by simp
theorem open_wrap {bs : List UInt8} (h : bs.length ≤ 65535) : openF (wrapL bs) = (bs, 0) := by
 unfold wrapL
 show openF (42 :: 2 :: UInt8.ofNat (bs.length / 256) :: UInt8.ofNat bs.length :: bs) = _
 rw [open_cons, if_neg (by decide), if_neg (by decide)]
 have e : (UInt8.ofNat (bs.length / 256)).toNat * 256 + (UInt8.ofNat bs.length).toNat = bs.length := by
   rw [ofNat_toNat8, ofNat_toNat8]; omega
 rw [e, if_neg (by omega), List.take_length]
/-- Pieces, one behind the other. -/
theorem split_zero (f : Nat) (l : List UInt8) : splitN (f + 1) (0 :: l) = ((0, []) :: (splitN f l).1, (splitN f l).2) := by
 rw [splitN, if_neg (by simp)]
 simp only [u8F_cons, take1]
 rw [if_neg (by decide)]
theorem split_cons {f : Nat} {k n : UInt8} {l : List UInt8} (hk : k ≠ 0) (h : n.toNat ≤ l.length) : splitN (f + 1) (k :: n :: l) = (((k.toNat : Int), l.take n.toNat) :: (splitN f (l.drop n.toNat)).1, (splitN f (l.drop n.toNat)).2) := by
 have hk2 : (k.toNat : Int) ≠ 0 := fun h => hk (UInt8.toNat_inj.1 (by simpa using h))
 rw [splitN, if_neg (by simp)]
 simp only [u8F_cons, take1]
 rw [if_pos hk2, rdTake_ok h, if_neg (by simp)]
theorem split_short {f : Nat} {k n : UInt8} {l : List UInt8} (hk : k ≠ 0) (h : l.length < n.toNat) : splitN (f + 1) (k :: n :: l) = ([], 52) := by
 have hk2 : (k.toNat : Int) ≠ 0 := fun h => hk (UInt8.toNat_inj.1 (by simpa using h))
 rw [splitN, if_neg (by simp)]
 simp only [u8F_cons, take1]
 rw [if_pos hk2, if_pos (by rw [rdTake_bad h]; decide)]
theorem split_lone {f : Nat} {k : UInt8} (hk : k ≠ 0) : splitN (f + 1) [k] = ([], 52) := by
 have hk2 : (k.toNat : Int) ≠ 0 := fun h => hk (UInt8.toNat_inj.1 (by simpa using h))
 rw [splitN, if_neg (by simp)]
 simp only [u8F_cons, take1]
 have h1 : (rdTake ⟨[], 0⟩ 1).2.e = 3 := rdTake_bad (n := 1) (by simp)
 have h2 : (rdTake ⟨[], 0⟩ 1).2.e ≠ 0 := by rw [h1]; decide
 rw [if_pos hk2, rdTake_fail h2, if_pos h2]
def splitF (l : List UInt8) : List (Int × List UInt8) × Int := splitN l.length l
theorem split_two : ∀ (f g : Nat) (l : List UInt8), l.length ≤ f → l.length ≤ g → splitN f l = splitN g l
 | 0, g, l, h, _ => by
   have : l = [] := List.eq_nil_of_length_eq_zero (by omega)
   subst this; rw [split_nil, split_nil]
 | f + 1, g, [], _, _ => by rw [split_nil, split_nil]
 | f + 1, 0, k :: l, _, h => by simp at h
 | f + 1, g + 1, k :: l, h, h' => by
   by_cases hk : k = 0
   · subst hk
     rw [split_zero, split_zero, split_two f g l (by simpa using h) (by simpa using h')]
   · cases l with
     | nil => rw [split_lone hk, split_lone hk]
     | cons n l =>
       simp only [List.length_cons] at h h'
       by_cases hn : n.toNat ≤ l.length
       · rw [split_cons hk hn, split_cons hk hn, split_two f g _ (by rw [List.length_drop]; omega) (by rw [List.length_drop]; omega)]
       · rw [split_short hk (by omega), split_short hk (by omega)]
theorem split_fuel (f : Nat) (l : List UInt8) (h : l.length ≤ f) : splitN f l = splitF l := split_two f l.length l h (Nat.le_refl _)
theorem splitF_zero (l : List UInt8) : splitF (0 :: l) = ((0, []) :: (splitF l).1, (splitF l).2) := split_zero l.length l
theorem splitF_cons {k n : UInt8} {l : List UInt8} (hk : k ≠ 0) (h : n.toNat ≤ l.length) : splitF (k :: n :: l) = (((k.toNat : Int), l.take n.toNat) :: (splitF (l.drop n.toNat)).1, (splitF (l.drop n.toNat)).2) := by
 unfold splitF
 rw [List.length_cons, split_cons hk h, split_fuel (n :: l).length _ (by rw [List.length_drop, List.length_cons]; omega)]
 rfl
theorem splitF_nil : splitF [] = ([], 0) := rfl
theorem split_app : ∀ (m : Nat) (a b : List UInt8), a.length ≤ m → (splitF a).2 = 0 → splitF (a ++ b) = ((splitF a).1 ++ (splitF b).1, (splitF b).2)
 | m, [], b, _, _ => by rw [splitF_nil, List.nil_append, List.nil_append]
 | 0, k :: a, _, h, _ => by simp at h
 | m + 1, k :: a, b, h, h2 => by
   by_cases hk : k = 0
   · subst hk
     rw [splitF_zero] at h2
     rw [List.cons_append, splitF_zero, splitF_zero, split_app m a b (by simpa using h) h2]
     rfl
   · cases a with
     | nil => rw [show splitF [k] = ([], 52) from split_lone hk] at h2; cases h2
     | cons n a =>
       by_cases hn : n.toNat ≤ a.length
       · rw [splitF_cons hk hn] at h2
         rw [List.cons_append, List.cons_append, splitF_cons hk hn, splitF_cons hk (by rw [List.length_append]; omega), List.take_append_of_le_length hn, List.drop_append_of_le_length hn,
           split_app m _ b (by rw [List.length_drop]; simp only [List.length_cons] at h; omega) h2]
         rfl
       · rw [show splitF (k :: n :: a) = ([], 52) from split_short hk (by omega)] at h2; cases h2
theorem run_append (x : PrS) (ps qs : List (Int × List UInt8)) : runF x (ps ++ qs) = ((runF x ps).1 ++ (runF (runF x ps).2 qs).1, (runF (runF x ps).2 qs).2) := by
 induction ps generalizing x with
 | nil => rfl
 | cons p ps ih =>
   rw [List.cons_append, runF_cons, runF_cons, ih]
   simp only [List.append_assoc]
theorem parse_wrap {src : Bs 16} {bs : List UInt8} (h : bs.length ≤ 65535) : parseF src (wrapL bs) = ((runF (begF src) (splitF bs).1).1, (splitF bs).2) := by
 unfold parseF
 rw [open_wrap h, if_neg (by simp)]
 rfl
def frontL (pads : Nat) (k : UInt8) (body : List UInt8) : List UInt8 := (List.replicate pads 0 ++ [k, UInt8.ofNat body.length]) ++ body
end Slb
