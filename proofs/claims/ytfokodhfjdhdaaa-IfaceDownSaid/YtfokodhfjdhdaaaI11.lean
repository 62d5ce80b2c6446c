/- I11: a part of the proof that a law of this package holds for every input; no condition. -/
import Derived.Test.YtfokodhfjdhdaaaI10
namespace Slb
open Go Go.Proofs
set_option maxRecDepth 20000
def tlv0 (rt : Int) : Tlv := { Tlv.zero with type := rt }
/-- What a piece says. -/
def readF (x : PrS) (rt : Int) (body : List UInt8) : (Tlv × Bool × List Int) × PrS :=
  let r0 : Rs := ⟨body, 0⟩
  let q1 := (rdTake r0 2).2
  let q2 := (rdTake q1 2).2
  let q3 := (rdTake q2 2).2
  let p2 := (rdTake (rdTake r0 1).2 1).2
  let p3 := (rdTake p2 2).2
  let p4 := (rdTake p3 2).2
  if rt = 2 then (({ tlv0 rt with nonce := u16F q1, interval := u16F q2 }, soundB (subsF [] false q3).2.2 (subsF [] false q3).2.1, []), x)
  else if rt = 3 then (({ tlv0 rt with nonce := u16F r0 }, soundB (subsF [] false q1).2.2 (subsF [] false q1).2.1, []), x)
  else if rt = 4 then (({ tlv0 rt with unicast := decide (and16 (u16F r0) 32768 ≠ 0), seqno := u16F q1, interval := u16F q2 }, soundB (subsF [3] false q3).2.2 (subsF [3] false q3).2.1, stampL 1 (subsF [3] false q3).1), x)
  else if rt = 5 then (({ tlv0 rt with rxcost := u16F p2, interval := u16F p3, addr := (addrF (u8F r0) p4).1, all := decide (u8F r0 = 0) },
      soundB (subsF [3] (false || (addrF (u8F r0) p4).2.2) (addrF (u8F r0) p4).2.1).2.2 (subsF [3] (false || (addrF (u8F r0) p4).2.2) (addrF (u8F r0) p4).2.1).2.1, stampL 2 (subsF [3] (false || (addrF (u8F r0) p4).2.2) (addrF (u8F r0) p4).2.1).1), x)
  else if rt = 8 then (((updF x (tlv0 rt) r0 false).1.1, soundB (updF x (tlv0 rt) r0 false).1.2.2 (updF x (tlv0 rt) r0 false).1.2.1, []), (updF x (tlv0 rt) r0 false).2)
  else if rt = 9 ∨ rt = 10 then (((reqF (tlv0 rt) r0 false).1, soundB (reqF (tlv0 rt) r0 false).2.2 (reqF (tlv0 rt) r0 false).2.1, []), x)
  else if rt = 6 ∨ rt = 7 then ((Tlv.zero, false, []), (tellF x (tlv0 rt) r0 false).2.2)
  else ((Tlv.zero, false, []), x)
end Slb
