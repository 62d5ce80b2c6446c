/- R72: a part of the proof that a law of this package holds for every input; no condition. -/
import Derived.Test.YtmolpkkkndopcaaGreatM2
import Derived.Test.YtmolpkkkndopcaaGreatR71
namespace Slb
open Go Go.Proofs
set_option maxRecDepth 20000
/-- A list of lists of Tlvs, as it comes in. -/
structure TlsX where
  a : Option Addr
  c : Nat
  l : List TlvX
@[reducible] def tlsE (y : TlsX) : List Value := [.slice y.a y.l.length y.c]
@[reducible] def boE (b : Bool) : List Value := [.bool b]
def TlsIn (F : Fr) (y : TlsX) : Prop := ArgSl F y.a 68 tlvE y.l ∧ (∀ x ∈ y.l, TlvIn F x) ∧ (∀ x ∈ y.l, (tlvS x).WF) ∧ (∀ x ∈ y.l, ∀ n ∈ x.l, 0 ≤ n ∧ n < 4294967296) ∧ y.l.length ≤ 9223372036854775807
/-- What waits. -/
def GoodL (F : Fr) (src : Bs 16) (mtu : Int) (us : List TlvX) : Prop := ∀ x ∈ us, TlvIn F x ∧ (tlvS x).WF ∧ (∀ n ∈ x.l, 0 ≤ n ∧ n < 4294967296) ∧ x.l.length ≤ 200 ∧ fitsF src mtu (tlvS x) x.l = 0
theorem GoodL.app {F : Fr} {src : Bs 16} {mtu : Int} {us : List TlvX} {y : TlsX} (h : GoodL F src mtu us) (hy : TlsIn F y) (hb : ∀ x ∈ y.l, x.l.length ≤ 200) (he : addErr src mtu y.l = 0) : GoodL F src mtu (us ++ y.l) := fun x hx => by
  rcases List.mem_append.1 hx with hx | hx
  · exact h x hx
  · exact ⟨hy.2.1 x hx, hy.2.2.1 x hx, hy.2.2.2.1 x hx, hb x hx, addErr_zero he x hx⟩
end Slb
