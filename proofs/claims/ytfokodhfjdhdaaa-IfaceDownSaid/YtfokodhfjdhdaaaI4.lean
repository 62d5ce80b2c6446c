/- I4: a part of the proof that a law of this package holds for every input; no condition. -/
import Derived.Test.YtfokodhfjdhdaaaM2
import Derived.Test.YtfokodhfjdhdaaaI3
namespace Slb
open Go Go.Proofs
set_option maxRecDepth 20000
/-! ### A packet's body -/
def openF (l : List UInt8) : List UInt8 × Int :=
  let r1 := (rdTake ⟨l, 0⟩ 1).2
  let r2 := (rdTake r1 1).2
  let r3 := (rdTake r2 2).2
  if r3.e ≠ 0 then ([], 3) else if u8F ⟨l, 0⟩ ≠ 42 then ([], 50) else if u8F r1 ≠ 2 then ([], 51) else if u16F r2 > r3.l.length then ([], 52) else ((rdTake r3 (u16F r2)).1, 0)
theorem RowsAt.bytes {S : List HProp} {F : Fr} {a : Option Addr} {c : Nat} {B : List UInt8} {e : TypeId} (hh : SlH a c B) (h : slA e 1 bytE (.slice a B.length c) B ∈ S) : RowsAt S F (.slice a B.length c) B.length 1 (bytesV B) := by
  have := RowsAt.ownH (F := F) (enc := bytE) (z := 1) (fun _ => rfl) hh h
  rwa [flat_byt] at this

def soundB (bad : Bool) (r : Rs) : Bool := !bad && decide (r.e = 0)

abbrev any4 : Prefix := ⟨⟨[0, 0, 0, 0, 0, 0, 0, 0, 0, 0, 255, 255, 0, 0, 0, 0], rfl⟩, ⟨96, by omega⟩⟩
def anyB (f : Int) : Prefix := if f = 4 then any4 else Prefix.zero
theorem set_any : SetL (Prefix.enc ⟨Bs.zero 16, ⟨96, by omega⟩⟩) 0 12 (bytesV [0, 0, 0, 0, 0, 0, 0, 0, 0, 0, 255, 255]) (Prefix.enc any4) := ⟨[], (Prefix.enc ⟨Bs.zero 16, ⟨96, by omega⟩⟩).take 12, (Prefix.enc ⟨Bs.zero 16, ⟨96, by omega⟩⟩).drop 12, by rfl, by rfl, rfl, by rfl, by rfl⟩

theorem shared4 (F : Fr)  : Spec Try.prog 100 #[.int .i64 4] [] F (fun v S => v = .int .i64 96 ∧ S = []) := by
 refine Spec.intro (N := 5) (args := [.int .i64 4]) Try.func100 rfl rfl (by simp) ?_
 refine Run.seq fun k1 hk1 => Run.region ?_
 show Sq _ _ _ [0] _ _ _ _
 refine Sg 0 rfl rfl rfl <| Sq.nil <| hk1 _ _ <| Run.seq fun k2 hk2 => Run.seq fun k3 hk3 => Run.region ?_
 show Sq _ _ _ [0, 1] _ _ _ _
 refine Mv 0 rfl rfl rfl <| Qp 1 rfl rfl (QP.eql rfl rfl rfl) <| Sq.nil <| hk3 _ _ <| Run.cond_t rfl <| Run.seq fun k4 hk4 => Run.region ?_
 show Sq _ _ _ [0] _ _ _ _
 refine Sg 0 rfl rfl rfl <| Sq.nil <| hk4 _ _ <| Run.ret ?_
 exact J.ends (res_tmp rfl rfl) Takes.nil ⟨rfl, rfl⟩

theorem shared6 (F : Fr) (f : Int) (hf : f ≠ 4) : Spec Try.prog 100 #[.int .i64 f] [] F (fun v S => v = .int .i64 0 ∧ S = []) := by
 refine Spec.intro (N := 5) (args := [.int .i64 f]) Try.func100 rfl rfl (by simp) ?_
 refine Run.seq fun k1 hk1 => Run.region ?_
 show Sq _ _ _ [0] _ _ _ _
 refine Sg 0 rfl rfl rfl <| Sq.nil <| hk1 _ _ <| Run.seq fun k2 hk2 => Run.seq fun k3 hk3 => Run.region ?_
 show Sq _ _ _ [0, 1] _ _ _ _
 refine Mv 0 rfl rfl rfl <| Qp 1 rfl rfl (QP.eql rfl rfl rfl) <| J.decF (hf) ?_
 refine Sq.nil <| hk3 _ _ <| Run.cond_f rfl <| Run.skip <| hk2 _ _ <| Run.seq fun k4 hk4 => Run.region ?_
 show Sq _ _ _ [0] _ _ _ _
 refine Sg 0 rfl rfl rfl <| Sq.nil <| hk4 _ _ <| Run.ret ?_
 exact J.ends (res_tmp rfl rfl) Takes.nil ⟨rfl, rfl⟩

theorem any4_spec (F : Fr)  : Spec Try.prog 99 #[.int .i64 4] [] F (fun v S => v = .agg (Prefix.enc any4).toArray ∧ S = []) := by
 refine Spec.intro (N := 13) (args := [.int .i64 4]) Try.func99 rfl rfl (by simp) ?_
 refine Run.seq fun k1 hk1 => Run.region ?_
 show Sq _ _ _ [0] _ _ _ _
 refine Ef 0 rfl rfl (EF.allocA (l := Prefix.enc Prefix.zero) rfl zero41) ?_
 rintro _ _ ⟨b2, rfl, rfl⟩
 refine Sq.nil <| hk1 _ _ <| Run.seq fun k2 hk2 => Run.region ?_
 show Sq _ _ _ [0, 1, 2, 3, 4] _ _ _ _
 refine Mv 0 rfl rfl rfl <| Ef 1 rfl rfl (EF.call rfl ce100 rfl Takes.nil (fun F' hle hr => shared4 F')) ?_
 rintro _ _ ⟨_, ⟨rfl, rfl⟩, rfl⟩
 refine J.app ?_
 refine Qp 2 rfl rfl (QP.build (l := Prefix.enc ⟨(Bs.zero 16), (⟨96, by omega⟩ : I64)⟩) rfl st41 rfl (by exact ⟨rfl, trivial⟩) rfl) <| Ef 3 rfl rfl (EF.allocA (l := Prefix.enc Prefix.zero) rfl zero41) ?_
 rintro _ _ ⟨b3, rfl, rfl⟩
 refine Ac 4 rfl (EF.storeA rfl rfl rfl z41 (SetL.all (Prefix.enc_len _) (Prefix.enc_len _)) (Prefix.enc_cell _)) ?_
 rintro _ _ rfl
 refine Sq.nil <| hk2 _ _ <| Run.seq fun k3 hk3 => Run.seq fun k4 hk4 => Run.region ?_
 show Sq _ _ _ [0, 1] _ _ _ _
 refine Mv 0 rfl rfl rfl <| Qp 1 rfl rfl (QP.eql rfl rfl rfl) <| Sq.nil <| hk4 _ _ <| Run.cond_t rfl <| Run.region ?_
 show Sq _ _ _ [0, 1, 2] _ _ _ _
 refine Fa 0 rfl rfl rfl f41_0 <| Qp 1 rfl rfl (QP.sliceArr rfl rfl Try.underlying23 z5) <| Ef 2 rfl rfl (EF.copyStr (xs := [0, 0, 0, 0, 0, 0, 0, 0, 0, 0, 255, 255]) rfl rfl rfl rfl Try.underlying50 z5 (by decide) set_any) ?_
 rintro _ _ ⟨rfl, rfl⟩
 refine Sq.nil <| hk3 _ _ <| Run.seq fun k5 hk5 => Run.region ?_
 show Sq _ _ _ [0, 1] _ _ _ _
 refine Qq 0 rfl rfl (QR.load rfl rfl g41 (Prefix.enc_sub _)) ?_
 refine Ac 1 rfl (EF.storeA rfl rfl rfl z41 (SetL.all (Prefix.enc_len _) (Prefix.enc_len _)) (Prefix.enc_cell _)) ?_
 rintro _ _ rfl
 refine Sq.nil <| hk5 _ _ <| Run.ret ?_
 exact J.ends (res_cell rfl rfl g41 (Prefix.enc_sub _)) Takes.nil ⟨rfl, rfl⟩

theorem any6_spec (F : Fr) (f : Int) (hf : f ≠ 4) : Spec Try.prog 99 #[.int .i64 f] [] F (fun v S => v = .agg (Prefix.enc Prefix.zero).toArray ∧ S = []) := by
 refine Spec.intro (N := 13) (args := [.int .i64 f]) Try.func99 rfl rfl (by simp) ?_
 refine Run.seq fun k1 hk1 => Run.region ?_
 show Sq _ _ _ [0] _ _ _ _
 refine Ef 0 rfl rfl (EF.allocA (l := Prefix.enc Prefix.zero) rfl zero41) ?_
 rintro _ _ ⟨b2, rfl, rfl⟩
 refine Sq.nil <| hk1 _ _ <| Run.seq fun k2 hk2 => Run.region ?_
 show Sq _ _ _ [0, 1, 2, 3, 4] _ _ _ _
 refine Mv 0 rfl rfl rfl <| Ef 1 rfl rfl (EF.call rfl ce100 rfl Takes.nil (fun F' hle hr => shared6 F' f hf)) ?_
 rintro _ _ ⟨_, ⟨rfl, rfl⟩, rfl⟩
 refine J.app ?_
 refine Qp 2 rfl rfl (QP.build (l := Prefix.enc ⟨(Bs.zero 16), (⟨0, by omega⟩ : I64)⟩) rfl st41 rfl (by exact ⟨rfl, trivial⟩) rfl) <| Ef 3 rfl rfl (EF.allocA (l := Prefix.enc Prefix.zero) rfl zero41) ?_
 rintro _ _ ⟨b3, rfl, rfl⟩
 refine Ac 4 rfl (EF.storeA rfl rfl rfl z41 (SetL.all (Prefix.enc_len _) (Prefix.enc_len _)) (Prefix.enc_cell _)) ?_
 rintro _ _ rfl
 refine Sq.nil <| hk2 _ _ <| Run.seq fun k3 hk3 => Run.seq fun k4 hk4 => Run.region ?_
 show Sq _ _ _ [0, 1] _ _ _ _
 refine Mv 0 rfl rfl rfl <| Qp 1 rfl rfl (QP.eql rfl rfl rfl) <| J.decF (hf) ?_
 refine Sq.nil <| hk4 _ _ <| Run.cond_f rfl <| Run.skip <| hk3 _ _ <| Run.seq fun k5 hk5 => Run.region ?_
 show Sq _ _ _ [0, 1] _ _ _ _
 refine Qq 0 rfl rfl (QR.load rfl rfl g41 (Prefix.enc_sub _)) ?_
 refine Ac 1 rfl (EF.storeA rfl rfl rfl z41 (SetL.all (Prefix.enc_len _) (Prefix.enc_len _)) (Prefix.enc_cell _)) ?_
 rintro _ _ rfl
 refine Sq.nil <| hk5 _ _ <| Run.ret ?_
 exact J.ends (res_cell rfl rfl g41 (Prefix.enc_sub _)) Takes.nil ⟨rfl, rfl⟩

theorem any_spec (F : Fr) (f : Int) : Spec Try.prog 99 #[.int .i64 f] [] F (fun v S => v = .agg (Prefix.enc (anyB f)).toArray ∧ S = []) := by
  by_cases hf : f = 4
  · subst hf; exact any4_spec F
  · have := any6_spec F f hf
    unfold anyB
    rw [if_neg hf]
    exact this

def llB : Bs 16 := ((Bs.zero 16).put 0 254).put 1 128
def addrF (ae : Int) (r : Rs) : Bs 16 × Rs × Bool :=
  if ae = 0 then (Bs.zero 16, r, false) else if ae = 1 then (any4.a.patch 12 (rdTake r 4).1, (rdTake r 4).2, false) else if ae = 2 then ((Bs.zero 16).patch 0 (rdTake r 16).1, (rdTake r 16).2, false)
  else if ae = 3 then (llB.patch 8 (rdTake r 8).1, (rdTake r 8).2, false) else (Bs.zero 16, r, true)
end Slb
