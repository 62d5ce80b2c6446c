/- I12: a part of the proof that a law of this package holds for every input; no condition. -/
import Derived.Test.YtfokodhfjdhdaaaI11
import Derived.Test.YtfokodhfjdhdaaaM2
namespace Slb
open Go Go.Proofs
set_option maxRecDepth 20000
/-! ### A packet -/
structure TlvX where
  t : Tlv
  a : Option Addr
  c : Nat
  l : List Int
@[reducible] def tlvS (x : TlvX) : Tlv := { x.t with stamps := ⟨x.a, x.l.length, x.c⟩ }
@[reducible] def tlvE (x : TlvX) : List Value := (tlvS x).enc
theorem tlvE_len (x : TlvX) : (tlvE x).length = 68 := Tlv.enc_len _
def norm (t : Tlv) : Tlv := { t with stamps := Slc.zero }
def tlvM (x : TlvX) : Tlv × List Int := (norm x.t, x.l)
@[reducible] def stA (x : TlvX) : HProp := slA 94 1 u32E (.slice x.a x.l.length x.c) x.l
def rowsT (ts : List TlvX) : HProp := stars (ts.map stA)
theorem rowsT_snoc {ts : List TlvX} {x : TlvX} {p : PH} (g : stars [rowsT ts, stA x] p) : rowsT (ts ++ [x]) p := by
  obtain ⟨h1, h2, d, rfl, g1, g2⟩ := g
  unfold rowsT
  rw [List.map_append]
  exact stars_append.2 ⟨h1, h2, d, rfl, g1, g2⟩
theorem J.addTlvs {N : Nat} {G : Env} {S : List HProp} {F : Fr} {Φ : Act → World → Prop} (j : J N G (rowsT [] :: S) F Φ) : J N G S F Φ := j.conseq fun w s => by
  obtain ⟨a, b, c, d, k, hk, f, h⟩ := s
  exact ⟨a, b, c, d, k, ⟨PH.none, k, PH.none_disj k, (PH.none_union k).symm, rfl, hk⟩, f, h⟩
def runF (x : PrS) : List (Int × List UInt8) → List (Tlv × List Int) × PrS
  | [] => ([], x)
  | p :: ps => ((if (readF x p.1 p.2).1.2.1 then [(norm (readF x p.1 p.2).1.1, (readF x p.1 p.2).1.2.2)] else []) ++ (runF (readF x p.1 p.2).2 ps).1, (runF (readF x p.1 p.2).2 ps).2)
/-- A body's packet. -/
def wrapL (bs : List UInt8) : List UInt8 := [42, 2, UInt8.ofNat (bs.length / 256), UInt8.ofNat bs.length] ++ bs
def begF (src : Bs 16) : PrS := ⟨none, aset [] (⟨familyB src, family_range src⟩ : I64) src, []⟩
def parseF (src : Bs 16) (p : List UInt8) : List (Tlv × List Int) × Int :=
  if (openF p).2 ≠ 0 then ([], (openF p).2) else ((runF (begF src) (splitN (openF p).1.length (openF p).1).1).1, (splitN (openF p).1.length (openF p).1).2)
def preX (l : List (Tlv × List Int)) (q : List (Tlv × List Int) × PrS) : List (Tlv × List Int) × PrS := (l ++ q.1, q.2)
end Slb
