/- I10: a part of the proof that a law of this package holds for every input; no condition. -/
import Derived.Test.YtfokodhfjdhdaaaI9
namespace Slb
open Go Go.Proofs
set_option maxRecDepth 20000
def and8i (m n : Int) : Int := ((BitVec.ofInt 8 m &&& BitVec.ofInt 8 n).toNat : Int)
theorem wrap8_bv (b : BitVec 8) : IntKind.u8.wrap (b.toNat : Int) = (b.toNat : Int) := by
  have h3 := b.isLt
  generalize b.toNat = k at h3 ⊢
  exact wrap_u8 (by omega) (by omega)
theorem bits_and8 (a b : Int) : Op.intBits .and .u8 a b = pure (.int .u8 (and8i a b)) := by
  have h : IntKind.u8.wrap ((BitVec.ofInt 8 a &&& BitVec.ofInt 8 b).toNat : Int) = and8i a b := wrap8_bv _
  unfold Op.intBits
  exact congrArg (fun n => (pure (Value.int .u8 n) : Sem Value)) h
section
variable {P : Program} {N : Nat} {G : Env} {S : List HProp} {F : Fr} {o : Oper} {t t' : TypeId} {x y : Operand}
theorem QP.and8i {m n : Int} (ho : o.op = .binOp .and t x y t') (hx : opv G x = some (.int .u8 m)) (hy : opv G y = some (.int .u8 n)) : QP P N G S F o (.int .u8 (and8i m n)) := fun ac w s w' => by
  unfold execOp
  simp [ho, s.eval hx, s.eval hy, eqGuard_at_int, binOp, bits_and8]
end
theorem RowsAt.lit {S : List HProp} {F : Fr} {b c : Nat} {ys : List UInt8} {ty : TypeId} (h : blk b (bytesV ys) ty ∈ S) : RowsAt S F (.slice (some ⟨b, 0, none⟩) ys.length c) ys.length 1 (bytesV ys) := by
  refine ⟨by rw [bytesV_length, Nat.mul_one], .inr ⟨b, 0, c, rfl, fun w s => ⟨_, ty, (0, 0), s.mem h, ?_⟩⟩⟩
  have := SubL.all (bytesV ys)
  rw [bytesV_length] at this
  rwa [Nat.mul_one]
def idOf (ae : Int) (a : Bs 16) : Bs 8 := if ae = 1 then ((Bs.zero 8).patch 0 ((a.l.drop 8).take 8)).patch 0 [0, 0, 0, 0] else (Bs.zero 8).patch 0 ((a.l.drop 8).take 8)
def updX (x : PrS) (ae fl : Int) (p : Prefix) : PrS :=
  { id := if and8i fl 64 ≠ 0 then some (idOf ae p.a) else x.id, hops := x.hops, bases := if and8i fl 128 ≠ 0 then aset x.bases (n8 ae) p.a else x.bases }
def updH (x : PrS) (pr : Pair × Rs × Bool) (p : Prefix) (t : Tlv) : Tlv × Rs × Bool :=
  if t.metric = 65535 then ({ t with pair := pr.1 }, pr.2.1, pr.2.2) else
  if soundB (pr.2.2 || !((alook x.hops (n64 (pfamilyB p))).isSome && (match x.id with | none => false | some i => namedB i))) pr.2.1 = true
  then ({ t with pair := pr.1, id_ := x.id.getD (Bs.zero 8), addr := (alook x.hops (n64 (pfamilyB p))).getD (Bs.zero 16) }, pr.2.1, pr.2.2 || !((alook x.hops (n64 (pfamilyB p))).isSome && (match x.id with | none => false | some i => namedB i)))
  else ({ t with pair := pr.1 }, pr.2.1, pr.2.2 || !((alook x.hops (n64 (pfamilyB p))).isSome && (match x.id with | none => false | some i => namedB i)))
def updG (x : PrS) (ae fl plen om : Int) (t : Tlv) (r : Rs) (bad : Bool) : (Tlv × Rs × Bool) × PrS :=
  if ae = 0 then
    if plen = 0 ∧ om = 0 ∧ t.metric = 65535 then (({ t with all := true }, (subsF [128] bad r).2.1, (subsF [128] bad r).2.2 || !decide ((subsF [128] bad r).1 = [])), x)
    else (({ t with all := true }, r, true), x)
  else
    let pf := prefF ae plen om ((alook x.bases (n8 ae)).getD (Bs.zero 16)) r (bad || !(decide (om = 0) || (alook x.bases (n8 ae)).isSome))
    if soundB pf.2.2 pf.2.1 = false then ((t, pf.2.1, pf.2.2), x)
    else (updH (updX x ae fl pf.1) (pairF ae pf.1 pf.2.2 pf.2.1) pf.1 t, updX x ae fl pf.1)
def updT (t : Tlv) (r4 : Rs) : Tlv := { t with interval := u16F r4, seqno := u16F (rdTake r4 2).2, metric := u16F (rdTake (rdTake r4 2).2 2).2 }
def updF (x : PrS) (t : Tlv) (r : Rs) (bad : Bool) : (Tlv × Rs × Bool) × PrS :=
  let r1 := (rdTake r 1).2
  let r2 := (rdTake r1 1).2
  let r3 := (rdTake r2 1).2
  let r4 := (rdTake r3 1).2
  updG x (u8F r) (u8F r1) (u8F r2) (u8F r3) (updT t r4) (rdTake (rdTake (rdTake r4 2).2 2).2 2).2 bad
end Slb
