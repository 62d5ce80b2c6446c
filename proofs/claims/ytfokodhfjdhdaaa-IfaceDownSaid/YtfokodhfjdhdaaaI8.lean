/- I8: a part of the proof that a law of this package holds for every input; no condition. -/
import Derived.Test.YtfokodhfjdhdaaaI7
namespace Slb
open Go Go.Proofs
set_option maxRecDepth 20000
def idF (r : Rs) : Bs 8 := (Bs.zero 8).patch 0 (rdTake r 8).1
def reqHead (ae : Int) (t : Tlv) (r : Rs) (bad : Bool) : Tlv × Rs × Bool :=
  if t.type = 10 then
    ({ t with seqno := u16F r, hops := u8F (rdTake r 2).2, id_ := idF (rdTake (rdTake (rdTake r 2).2 1).2 1).2 }, (rdTake (rdTake (rdTake (rdTake r 2).2 1).2 1).2 8).2,
      bad || !(decide (ae ≠ 0) && (decide (u8F (rdTake r 2).2 ≠ 0) && decide (idF (rdTake (rdTake (rdTake r 2).2 1).2 1).2 ≠ Bs.zero 8))))
  else (t, r, bad)
def reqTail (ae plen : Int) (t : Tlv) (r : Rs) (bad : Bool) : Tlv × Rs × Bool :=
  if ae = 0 then
    if plen = 0 then ({ t with all := true }, (subsF [128] bad r).2.1, (subsF [128] bad r).2.2 || !decide ((subsF [128] bad r).1 = []))
    else ({ t with all := true }, r, true)
  else
    if soundB (prefF ae plen 0 (Bs.zero 16) r bad).2.2 (prefF ae plen 0 (Bs.zero 16) r bad).2.1 = true then
      ({ t with pair := (pairF ae (prefF ae plen 0 (Bs.zero 16) r bad).1 (prefF ae plen 0 (Bs.zero 16) r bad).2.2 (prefF ae plen 0 (Bs.zero 16) r bad).2.1).1 },
        (pairF ae (prefF ae plen 0 (Bs.zero 16) r bad).1 (prefF ae plen 0 (Bs.zero 16) r bad).2.2 (prefF ae plen 0 (Bs.zero 16) r bad).2.1).2.1, (pairF ae (prefF ae plen 0 (Bs.zero 16) r bad).1 (prefF ae plen 0 (Bs.zero 16) r bad).2.2 (prefF ae plen 0 (Bs.zero 16) r bad).2.1).2.2)
    else (t, (prefF ae plen 0 (Bs.zero 16) r bad).2.1, (prefF ae plen 0 (Bs.zero 16) r bad).2.2)
def reqF (t : Tlv) (r : Rs) (bad : Bool) : Tlv × Rs × Bool :=
  reqTail (u8F r) (u8F (rdTake r 1).2) (reqHead (u8F r) t (rdTake (rdTake r 1).2 1).2 bad).1 (reqHead (u8F r) t (rdTake (rdTake r 1).2 1).2 bad).2.1 (reqHead (u8F r) t (rdTake (rdTake r 1).2 1).2 bad).2.2
end Slb
