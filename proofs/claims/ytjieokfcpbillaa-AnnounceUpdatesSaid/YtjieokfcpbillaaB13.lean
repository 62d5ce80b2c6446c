/- Base 13: comparing. -/
import Derived.Test.YtjieokfcpbillaaB12
namespace Slb
open Go Go.Proofs Go.Sort

/-- What cmp.Or answers: the first that is not 0. -/
def orF : List Int → Int
  | [] => 0
  | x :: l => if x ≠ 0 then x else orF l
def cmpF (a b : Int) : Int := if a < b then -1 else if b < a then 1 else 0
/-- A comparison that is a total order. -/
structure TotCmp {α : Type} (cf : α → α → Int) : Prop where
  eq : ∀ x y, cf x y = 0 ↔ x = y
  neg : ∀ x y, cf x y < 0 ↔ 0 < cf y x
  tr : ∀ x y z, cf x y < 0 → cf y z < 0 → cf x z < 0
namespace TotCmp
variable {α β γ : Type} {cf : α → α → Int}
theorem swo (h : TotCmp cf) : SWO (ltOf cf) where
  irrefl x := by
    have := (h.eq x x).2 rfl
    simp [ltOf, this]
  trans x y z h1 h2 := by
    simp only [ltOf, decide_eq_true_eq] at *
    exact h.tr x y z h1 h2
  ntrans x y z h1 h2 := by
    simp only [ltOf, decide_eq_false_iff_not] at *
    intro h3
    have a1 := (h.neg x z).1 h3
    -- y ≤ x, z ≤ y
    by_cases e1 : cf x y = 0
    · have := (h.eq x y).1 e1; subst this; exact h2 h3
    · by_cases e2 : cf y z = 0
      · have := (h.eq y z).1 e2; subst this; exact h1 h3
      · have b1 : cf y x < 0 := (h.neg y x).2 (by omega)
        have b2 := h.tr y x z b1 h3
        exact h2 b2
theorem int : TotCmp cmpF where
  eq x y := by unfold cmpF; split; · simp; omega
               · split <;> simp <;> omega
  neg x y := by unfold cmpF; (repeat' split) <;> omega
  tr x y z := by unfold cmpF; (repeat' split) <;> omega
theorem bytesNeg : ∀ (a b : List UInt8), Lib.compareBytes a b < 0 ↔ 0 < Lib.compareBytes b a
  | [], [] => by simp [Lib.compareBytes]
  | [], _ :: _ => by simp [Lib.compareBytes]
  | _ :: _, [] => by simp [Lib.compareBytes]
  | a :: la, b :: lb => by
    unfold Lib.compareBytes
    by_cases h1 : a < b
    · have h2 : ¬ b < a := fun h => UInt8.lt_asymm h1 h
      simp [h1, h2]
    · by_cases h2 : b < a
      · simp [h1, h2]
      · simp [h1, h2, bytesNeg la lb]
theorem bytesEq : ∀ (a b : List UInt8), Lib.compareBytes a b = 0 ↔ a = b
  | [], [] => by simp [Lib.compareBytes]
  | [], _ :: _ => by simp [Lib.compareBytes]
  | _ :: _, [] => by simp [Lib.compareBytes]
  | a :: la, b :: lb => by
    unfold Lib.compareBytes
    by_cases h1 : a < b
    · have : a ≠ b := fun h => UInt8.lt_irrefl a (h ▸ h1)
      simp [h1, this]
    · by_cases h2 : b < a
      · have : a ≠ b := fun h => UInt8.lt_irrefl a (h ▸ h2)
        simp [h1, h2, this]
      · have : a = b := UInt8.le_antisymm (UInt8.not_lt.1 h2) (UInt8.not_lt.1 h1)
        subst this
        simp [h1, bytesEq la lb]
theorem bytesTr : ∀ (a b c : List UInt8), Lib.compareBytes a b < 0 → Lib.compareBytes b c < 0 → Lib.compareBytes a c < 0
  | [], [], _, h, _ => by simp [Lib.compareBytes] at h
  | [], _ :: _, [], _, h => by simp [Lib.compareBytes] at h
  | [], _ :: _, _ :: _, _, _ => by simp [Lib.compareBytes]
  | _ :: _, [], _, h, _ => by simp [Lib.compareBytes] at h
  | _ :: _, _ :: _, [], _, h => by simp [Lib.compareBytes] at h
  | a :: la, b :: lb, c :: lc, h1, h2 => by
    unfold Lib.compareBytes at h1 h2 ⊢
    by_cases ab : a < b
    · by_cases bc : b < c
      · simp [UInt8.lt_trans ab bc]
      · by_cases cb : c < b
        · simp [bc, cb] at h2
        · have : b = c := UInt8.le_antisymm (UInt8.not_lt.1 cb) (UInt8.not_lt.1 bc)
          subst this; simp [ab]
    · by_cases ba : b < a
      · simp [ab, ba] at h1
      · have : a = b := UInt8.le_antisymm (UInt8.not_lt.1 ba) (UInt8.not_lt.1 ab)
        subst this
        simp only [ab, if_false] at h1
        by_cases ac : a < c
        · simp [ac]
        · by_cases ca : c < a
          · simp [ac, ca] at h2
          · simp only [ac, ca, if_false] at h2 ⊢
            exact bytesTr la lb lc h1 h2
theorem bytes (n : Nat) : TotCmp fun (x y : Bs n) => Lib.compareBytes x.l y.l where
  eq x y := ⟨fun h => Bs.ext ((bytesEq _ _).1 h), fun h => by subst h; exact (bytesEq _ _).2 rfl⟩
  neg _ _ := bytesNeg _ _
  tr _ _ _ := bytesTr _ _ _
theorem lex {c1 : β → β → Int} {c2 : γ → γ → Int} (h1 : TotCmp c1) (h2 : TotCmp c2) (a : α → β) (b : α → γ) (hinj : ∀ x y, a x = a y → b x = b y → x = y) (hf : ∀ x y, cf x y = orF [c1 (a x) (a y), c2 (b x) (b y)]) : TotCmp cf := by
  have hor : ∀ x y, cf x y = if c1 (a x) (a y) ≠ 0 then c1 (a x) (a y) else c2 (b x) (b y) := fun x y => by
    rw [hf]
    unfold orF orF orF
    split
    · rfl
    · split
      · rfl
      · rename_i h; simp at h; exact h.symm
  refine ⟨fun x y => ?_, fun x y => ?_, fun x y z => ?_⟩
  · rw [hor]
    split
    · rename_i h
      constructor
      · intro h'; exact absurd h' h
      · rintro rfl; exact absurd ((h1.eq _ _).2 rfl) h
    · rename_i h
      have h' : c1 (a x) (a y) = 0 := Classical.not_not.1 h
      constructor
      · intro h2'; exact hinj x y ((h1.eq _ _).1 h') ((h2.eq _ _).1 h2')
      · rintro rfl; exact (h2.eq _ _).2 rfl
  · rw [hor, hor]
    by_cases h : c1 (a x) (a y) = 0
    · have e := (h1.eq _ _).1 h
      have h' : c1 (a y) (a x) = 0 := (h1.eq _ _).2 e.symm
      simp only [h, h', ne_eq, not_true_eq_false, if_false]
      exact h2.neg _ _
    · have h' : c1 (a y) (a x) ≠ 0 := fun hh => h ((h1.eq _ _).2 ((h1.eq _ _).1 hh).symm)
      simp only [ne_eq, h, h', not_false_eq_true, if_true]
      exact h1.neg _ _
  · rw [hor, hor, hor]
    by_cases hxy : c1 (a x) (a y) = 0
    · have e := (h1.eq _ _).1 hxy
      rw [e]
      have : c1 (a y) (a y) = 0 := (h1.eq _ _).2 rfl
      simp only [this, ne_eq, not_true_eq_false, if_false]
      intro p q
      by_cases hyz : c1 (a y) (a z) = 0
      · simp only [hyz, ne_eq, not_true_eq_false, if_false] at q ⊢
        exact h2.tr _ _ _ p q
      · simp only [ne_eq, hyz, not_false_eq_true, if_true] at q ⊢
        exact q
    · simp only [ne_eq, hxy, not_false_eq_true, if_true]
      intro p q
      by_cases hyz : c1 (a y) (a z) = 0
      · have e := (h1.eq _ _).1 hyz
        rw [← e]
        simp only [ne_eq, hxy, not_false_eq_true, if_true]
        exact p
      · simp only [ne_eq, hyz, not_false_eq_true, if_true] at q
        have r := h1.tr _ _ _ p q
        rw [if_pos (by omega)]
        exact r
end TotCmp
theorem QP.const {P : Program} {N : Nat} {G : Env} {S : List HProp} {F : Fr} {o : Oper} (v : Value) (h : ∀ (a : Act) w', (execOp a.eval o).run P w' = .ok (.value v) w') : QP P N G S F o v := fun a _ _ => h a
end Slb
