/- I5: a part of the proof that a law of this package holds for every input; no condition. -/
import Derived.Test.YtfokodhfjdhdaaaI4
namespace Slb
open Go Go.Proofs
set_option maxRecDepth 20000
/-! ### A prefix, told in part -/
def offF (ae : Int) : Nat := if ae = 1 then 12 else 0
def baseA (ae : Int) : Bs 16 := if ae = 1 then any4.a else Bs.zero 16
def knownAE (ae : Int) : Bool := decide (ae = 1) || decide (ae = 2)
def pfxOk (ae plen om : Int) : Bool := knownAE ae && (decide ((offF ae : Int) + (plen + 7) / 8 ≤ 16) && decide (om ≤ (plen + 7) / 8))
def pfxA (ae plen om : Int) (base : Bs 16) (r : Rs) : Bs 16 := ((baseA ae).patch (offF ae) ((base.l.drop (offF ae)).take om.toNat)).patch (offF ae + om.toNat) (rdTake r ((plen + 7) / 8 - om)).1
def pfxL (ae plen : Int) : I64 := ⟨max 0 (min (8 * (offF ae : Int) + plen) 1000), by omega, by omega⟩
def prefF (ae plen om : Int) (base : Bs 16) (r : Rs) (bad : Bool) : Prefix × Rs × Bool :=
  if soundB (bad || !pfxOk ae plen om) r = false then (Prefix.zero, r, bad || !pfxOk ae plen om)
  else (⟨maskedB (pfxA ae plen om base r) (8 * (offF ae : Int) + plen), pfxL ae plen⟩, (rdTake r ((plen + 7) / 8 - om)).2, bad || !pfxOk ae plen om)
/-- A part of an array as bytes to copy. -/
theorem RowsAt.arr {S : List HProp} {F : Fr} {b n i k c : Nat} {x : Bs n} {ty : TypeId} (h : blk b x.enc ty ∈ S) (hik : i + k ≤ n) : RowsAt S F (.slice (slOff (some ⟨b, 0, none⟩) n i 1) k c) ((x.l.drop i).take k).length 1 (bytesV ((x.l.drop i).take k)) := by
  have hx := x.h
  have hlen : ((x.l.drop i).take k).length = k := by rw [List.length_take, List.length_drop]; omega
  rw [hlen]
  refine ⟨by rw [bytesV_length, hlen, Nat.mul_one], .inr ?_⟩
  by_cases hn : n = i
  · refine ⟨b, 0, c, by unfold slOff; rw [if_pos hn], fun w s => ⟨x.enc, ty, (0, 0), s.mem h, ?_⟩⟩
    have hk : k = 0 := by omega
    subst hk
    exact ⟨[], x.enc, by simp [bytesV], rfl, by simp [bytesV]⟩
  · refine ⟨b, i, c, by unfold slOff; rw [if_neg hn]; simp [add_lit], fun w s => ⟨x.enc, ty, (0, 0), s.mem h, ?_⟩⟩
    refine ⟨bytesV (x.l.take i), bytesV ((x.l.drop i).drop k), ?_, by rw [bytesV_length, List.length_take]; omega, by rw [bytesV_length, hlen, Nat.mul_one]⟩
    unfold Bs.enc bytesV
    rw [← List.map_append, ← List.map_append, List.append_assoc, List.take_append_drop, List.take_append_drop]
theorem quo8p {n : Int} (h : 0 ≤ n) (h2 : n ≤ 1000) : IntKind.i64.wrap (n.tdiv 8) = n / 8 := by
  rw [Int.tdiv_eq_ediv_of_nonneg h, wrap_i64 (by omega) (by omega)]
end Slb
