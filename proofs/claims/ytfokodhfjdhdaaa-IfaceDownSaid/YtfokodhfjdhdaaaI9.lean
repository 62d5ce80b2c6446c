/- I9: a part of the proof that a law of this package holds for every input; no condition. -/
import Derived.Test.YtfokodhfjdhdaaaM2
import Derived.Test.YtfokodhfjdhdaaaI8
namespace Slb
open Go Go.Proofs
set_option maxRecDepth 20000
abbrev adE (x : Bs 16) : Value := .agg (Bs.enc x).toArray
@[reducible] def mapH (r : Nat) (M : List (I64 × Bs 16)) : HProp := mapT (fun n : I64 => Value.int .i64 n.val) adE r M
@[reducible] def mapB (r : Nat) (M : List (N8 × Bs 16)) : HProp := mapT (fun n : N8 => Value.int .u8 n.val) adE r M
/-- What was told once for many. -/
structure PrS where
  id : Option (Bs 8)
  hops : List (I64 × Bs 16)
  bases : List (N8 × Bs 16)
def idA (p : Option Addr) (id : Option (Bs 8)) : HProp := match id with
  | none => Slb.fact (p = none)
  | some x => ex fun ib : Nat => stars [Slb.fact (p = some ⟨ib, 0, none⟩), blk ib (Bs.enc x) 39]
section
variable {N : Nat} {G : Env} {S S1 : List HProp} {F : Fr} {Φ : Act → World → Prop} {p : Option Addr} {x : Bs 8}
end
def n64 (n : Int) : I64 := if h : -9223372036854775808 ≤ n ∧ n ≤ 9223372036854775807 then ⟨n, h⟩ else ⟨0, by omega⟩
def n8 (n : Int) : N8 := if h : 0 ≤ n ∧ n ≤ 255 then ⟨n, h⟩ else ⟨0, by omega⟩
theorem family_range (a : Bs 16) : -9223372036854775808 ≤ familyB a ∧ familyB a ≤ 9223372036854775807 := by unfold familyB; split <;> omega
def onesB : Bs 8 := ⟨[255, 255, 255, 255, 255, 255, 255, 255], rfl⟩
def namedB (x : Bs 8) : Bool := decide (x ≠ Bs.zero 8) && decide (x ≠ onesB)

theorem named_spec (F : Fr) (i : Bs 8) : Spec Try.prog 72 #[.agg (Bs.enc i).toArray] [] F (fun v S => v = .bool (namedB i) ∧ S = []) := by
 refine Spec.intro (N := 11) (args := [.agg (Bs.enc i).toArray]) Try.func72 rfl rfl (by simp) ?_
 refine Run.seq fun k1 hk1 => Run.region ?_
 show Sq _ _ _ [0, 1] _ _ _ _
 refine Ef 0 rfl rfl (EF.boxA rfl rfl) ?_
 rintro _ _ ⟨b1, rfl, rfl⟩
 refine Sg 1 rfl rfl rfl <| Sq.nil <| hk1 _ _ <| Run.seq fun k2 hk2 => Run.region ?_
 show Sq _ _ _ [0, 1, 2, 3, 4, 5, 6, 7, 8] _ _ _ _
 refine Qq 0 rfl rfl (QR.load rfl rfl g39 (Bs.sub _)) ?_
 refine Qp 1 rfl rfl (QP.const (.agg (Bs.enc (⟨[0, 0, 0, 0, 0, 0, 0, 0], rfl⟩ : Bs 8)).toArray) (fun _ _ => by kernel_rfl)) <| Qp 2 rfl rfl (QP.neq_agg eq39 rfl rfl rfl) <| J.caseD (fun c5 => ?_) (fun c5 => ?_)
 ·refine Mv 3 rfl rfl rfl <| Yq 4 rfl rfl rfl (QR.load rfl rfl g39 (Bs.sub _)) ?_
  refine Yp 5 rfl rfl rfl (QP.const (.agg (Bs.enc (⟨[255, 255, 255, 255, 255, 255, 255, 255], rfl⟩ : Bs 8)).toArray) (fun _ _ => by kernel_rfl)) <| Yp 6 rfl rfl rfl (QP.neq_agg eq39 rfl rfl rfl) <| Pt 7 rfl rfl rfl rfl <| Sg 8 rfl rfl rfl <| Sq.nil <| hk2 _ _ <| Run.ret ?_
  exact J.ends (res_tmp rfl rfl) Takes.nil ⟨congrArg Value.bool (by unfold namedB; rw [show decide (i ≠ Bs.zero 8) = true from decide_eq_true c5]; rfl), rfl⟩
 ·refine Mv 3 rfl rfl rfl <| Sk 4 rfl rfl rfl <| Sk 5 rfl rfl rfl <| Sk 6 rfl rfl rfl <| Pf 7 rfl rfl rfl rfl <| Sg 8 rfl rfl rfl <| Sq.nil <| hk2 _ _ <| Run.ret ?_
  exact J.ends (res_tmp rfl rfl) Takes.nil ⟨congrArg Value.bool (by unfold namedB; rw [show decide (i ≠ Bs.zero 8) = false from decide_eq_false c5]; rfl), rfl⟩

def tellF (x : PrS) (t : Tlv) (r : Rs) (bad : Bool) : Rs × Bool × PrS :=
  if t.type = 6 then
    ((rdTake (rdTake r 2).2 8).2, bad, if soundB bad (rdTake (rdTake r 2).2 8).2 = true ∧ namedB (idF (rdTake r 2).2) = true then { x with id := some (idF (rdTake r 2).2) } else x)
  else
    ((addrF (u8F r) (rdTake (rdTake r 1).2 1).2).2.1, (bad || !decide (u8F r ≠ 0)) || (addrF (u8F r) (rdTake (rdTake r 1).2 1).2).2.2,
      if soundB ((bad || !decide (u8F r ≠ 0)) || (addrF (u8F r) (rdTake (rdTake r 1).2 1).2).2.2) (addrF (u8F r) (rdTake (rdTake r 1).2 1).2).2.1 = true
      then { x with hops := aset x.hops (n64 (familyB (addrF (u8F r) (rdTake (rdTake r 1).2 1).2).1)) (addrF (u8F r) (rdTake (rdTake r 1).2 1).2).1 } else x)
end Slb
