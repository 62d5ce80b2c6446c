/- J39: a part of the proof that a law of this package holds for every input; no condition. -/
import Derived.Test.YtfokodhfjdhdaaaGreatJ38
namespace Slb
open Go Go.Proofs
set_option maxRecDepth 20000
/-- Why a list is not packed. -/
def packErr (src : Bs 16) (mtu : Int) (ts : List TlvX) : Int := if mtu < 64 ∨ mtu > 65539 then 2 else addErr src mtu ts
/-- A list's packets. -/
def packF (src : Bs 16) (mtu : Int) (ts : List TlvX) : List (List UInt8) := if packErr src mtu ts ≠ 0 then [] else flushF src mtu (ts.map tlvM)
theorem fits_tlvM (src : Bs 16) (mtu : Int) (z : TlvX) : fitsF src mtu (tlvS z) z.l = fitsF src mtu { (tlvM z).1 with stamps := ⟨none, (tlvM z).2.length, 0⟩ } (tlvM z).2 := rfl
theorem tl_mem {ts us : List TlvX} (h : us.map tlvM = ts.map tlvM) {y : TlvX} (hy : y ∈ us) : ∃ x ∈ ts, tlvM x = tlvM y := by
 have := List.mem_map_of_mem (f := tlvM) hy
 rw [h] at this
 exact List.mem_map.1 this
theorem new_ok (F : Fr) (src : Bs 16) {mtu : Int} (h : ¬ (mtu < 64 ∨ mtu > 65539)) : Spec Tryz.prog 36 #[.agg (Bs.enc src).toArray, .int .i64 mtu] [] F (fun v S => ∃ b, v = .tuple #[.pointer (some ⟨b, 0, none⟩), .int .i64 0] ∧ S = [blk b (PackBuffer.enc ⟨src, mtu, ⟨none, ([] : List TlvX).length, 0⟩⟩) 150]) := (new_spec F src mtu).mono (fun v S hv => by rw [if_neg h] at hv; exact hv)
end Slb
