/- J9: a part of the proof that a law of this package holds for every input; no condition. -/
import Derived.Test.YtfokodhfjdhdaaaGreatM2
import Derived.Test.YtfokodhfjdhdaaaGreatJ8
namespace Slb
open Go Go.Proofs
set_option maxRecDepth 20000
theorem keyH : KeyTy Tryz.prog 3 I64 (fun n => .int .i64 n.val) := KeyTy.i64 Tryz.underlying3
theorem keyB : KeyTy Tryz.prog 5 N8 (fun n => .int .u8 n.val) := KeyTy.u8 Tryz.underlying5
abbrev adE (x : Bs 16) : Value := .agg (Bs.enc x).toArray
@[reducible] def mapH (r : Nat) (M : List (I64 × Bs 16)) : HProp := mapT (fun n : I64 => Value.int .i64 n.val) adE r M
@[reducible] def mapB (r : Nat) (M : List (N8 × Bs 16)) : HProp := mapT (fun n : N8 => Value.int .u8 n.val) adE r M
/-- What was told once for many. -/
structure PrS where
 id : Option (Bs 8)
 hops : List (I64 × Bs 16)
 bases : List (N8 × Bs 16)
def idA (p : Option Addr) (id : Option (Bs 8)) : HProp := match id with
 | none => Slb.fact (p = none)
 | some x => ex fun ib : Nat => stars [Slb.fact (p = some ⟨ib, 0, none⟩), blk ib (Bs.enc x) 42]
section
variable {N : Nat} {G : Env} {S S1 : List HProp} {F : Fr} {Φ : Act → World → Prop} {p : Option Addr} {x : Bs 8}
theorem J.idNone (pk : Pick S (idA p none) S1) (j : p = none → J N G S1 F Φ) : J N G S F Φ := fun a w s => by
 have h := (s.sat.perm pk.perm).fact
 exact (j h.1).conseq (fun w s => (s.perm pk.perm).drop) a w s
theorem J.idSome (pk : Pick S (idA p (some x)) S1) (j : ∀ ib, p = some ⟨ib, 0, none⟩ → J N G (blk ib (Bs.enc x) 42 :: S1) F Φ) : J N G S F Φ := fun a w s => by
 obtain ⟨ib, h⟩ := (s.sat.perm pk.perm).ex
 have h2 : Sat (stars [Slb.fact (p = some ⟨ib, 0, none⟩), blk ib (Bs.enc x) 42] :: S1) F w := h
 obtain ⟨q, hq, back⟩ := h2.unpack
 have h3 := back _ hq
 have h4 : Sat (Slb.fact (p = some ⟨ib, 0, none⟩) :: ([blk ib (Bs.enc x) 42] ++ S1)) F w := h3
 exact j ib h4.fact.1 a w (s.world h4.fact.2)
theorem idA_some {ib : Nat} {q : PH} (h : stars [blk ib (Bs.enc x) 42] q) : idA (some ⟨ib, 0, none⟩) (some x) q := ⟨ib, PH.none, q, PH.none_disj q, (PH.none_union q).symm, ⟨rfl, rfl⟩, h⟩
theorem J.addId (j : J N G (idA none none :: S) F Φ) : J N G S F Φ := j.conseq fun w s => by
 obtain ⟨a, b, c, d, k, hk, f, h⟩ := s
 exact ⟨a, b, c, d, k, ⟨PH.none, k, PH.none_disj k, (PH.none_union k).symm, ⟨rfl, rfl⟩, hk⟩, f, h⟩
end
def n64 (n : Int) : I64 := if h : -9223372036854775808 ≤ n ∧ n ≤ 9223372036854775807 then ⟨n, h⟩ else ⟨0, by omega⟩
def n8 (n : Int) : N8 := if h : 0 ≤ n ∧ n ≤ 255 then ⟨n, h⟩ else ⟨0, by omega⟩
theorem n64_eq {n : Int} (h : -9223372036854775808 ≤ n ∧ n ≤ 9223372036854775807) : n64 n = ⟨n, h⟩ := dif_pos h
theorem n8_eq {n : Int} (h : 0 ≤ n ∧ n ≤ 255) : n8 n = ⟨n, h⟩ := dif_pos h
theorem family_range (a : Bs 16) : -9223372036854775808 ≤ familyB a ∧ familyB a ≤ 9223372036854775807 := by unfold familyB; split <;> omega
theorem pfamily_range (p : Prefix) : -9223372036854775808 ≤ pfamilyB p ∧ pfamilyB p ≤ 9223372036854775807 := by
 unfold pfamilyB
 split
 · omega
 · exact family_range _
def onesB : Bs 8 := ⟨[255, 255, 255, 255, 255, 255, 255, 255], rfl⟩
def namedB (x : Bs 8) : Bool := decide (x ≠ Bs.zero 8) && decide (x ≠ onesB)

theorem named_spec (F : Fr) (i : Bs 8) : Spec Tryz.prog 116 #[.agg (Bs.enc i).toArray] [] F (fun v S => v = .bool (namedB i) ∧ S = []) := by
 refine Spec.intro (N := 11) (args := [.agg (Bs.enc i).toArray]) Tryz.func116 rfl rfl (by simp) ?_
 refine Zs fun _ hk1 => Ef 0 E2 (EF.boxA rfl rfl) ?_
 rintro _ _ ⟨b1, rfl, rfl⟩
 refine Sg 1 E3 <| Zl hk1 <| Zs fun _ hk2 => Qq 0 E2 (Z0 E2 g42 (Bs.sub _)) ?_
 refine Qp 1 E2 (QP.const (.agg (Bs.enc (⟨[0, 0, 0, 0, 0, 0, 0, 0], rfl⟩ : Bs 8)).toArray) (fun _ _ => by kernel_rfl)) <| Qp 2 E2 (QP.neq_agg eq42 rfl rfl rfl) <| J.caseD (fun c5 => ?_) (fun c5 => ?_)
 ·refine Mv 3 E3 <| Yq 4 E3 (Z0 E2 g42 (Bs.sub _)) ?_
  exact Yp 5 E3 (QP.const (.agg (Bs.enc (⟨[255, 255, 255, 255, 255, 255, 255, 255], rfl⟩ : Bs 8)).toArray) (fun _ _ => by kernel_rfl)) <| Yp 6 E3 (QP.neq_agg eq42 rfl rfl rfl) <| Pt 7 E4 <| Sg 8 E3 <| Zl hk2 <| Run.ret <| Je E2 ⟨congrArg Value.bool (by unfold namedB; rw [show decide (i ≠ Bs.zero 8) = true from decide_eq_true c5]; rfl), rfl⟩
 ·exact Mv 3 E3 <| Sk 4 E3 <| Sk 5 E3 <| Sk 6 E3 <| Pf 7 E4 <| Sg 8 E3 <| Zl hk2 <| Run.ret <| Je E2 ⟨congrArg Value.bool (by unfold namedB; rw [show decide (i ≠ Bs.zero 8) = false from decide_eq_false c5]; rfl), rfl⟩

def tellF (x : PrS) (t : Tlv) (r : Rs) (bad : Bool) : Rs × Bool × PrS :=
 if t.type = 6 then
   ((rdTake (rdTake r 2).2 8).2, bad, if soundB bad (rdTake (rdTake r 2).2 8).2 = true ∧ namedB (idF (rdTake r 2).2) = true then { x with id := some (idF (rdTake r 2).2) } else x)
 else
   ((addrF (u8F r) (rdTake (rdTake r 1).2 1).2).2.1, (bad || !decide (u8F r ≠ 0)) || (addrF (u8F r) (rdTake (rdTake r 1).2 1).2).2.2,
     if soundB ((bad || !decide (u8F r ≠ 0)) || (addrF (u8F r) (rdTake (rdTake r 1).2 1).2).2.2) (addrF (u8F r) (rdTake (rdTake r 1).2 1).2).2.1 = true
     then { x with hops := aset x.hops (n64 (familyB (addrF (u8F r) (rdTake (rdTake r 1).2 1).2).1)) (addrF (u8F r) (rdTake (rdTake r 1).2 1).2).1 } else x)

set_option maxHeartbeats 2000000 in
theorem tells_spec (F : Fr) {xb hm bm : Nat} {idp : Option Addr} (x : PrS) {b rb : Nat} {t : Tlv} {bad : Bool} {r : Rs}  : Spec Tryz.prog 82 #[fp xb, fp b] [blk b (PacketPiece.enc ⟨some ⟨rb, 0, none⟩, t, bad⟩) 185, RdA rb r, blk xb (PacketParser.enc ⟨⟨idp, some hm, some bm⟩⟩) 132, mapH hm x.hops, mapB bm x.bases, idA idp x.id] F (fun v S => ∃ idp2, v = .tuple #[] ∧ S = [blk b (PacketPiece.enc ⟨some ⟨rb, 0, none⟩, t, (tellF x t r bad).2.1⟩) 185, RdA rb (tellF x t r bad).1, blk xb (PacketParser.enc ⟨⟨idp2, some hm, some bm⟩⟩) 132, mapH hm (tellF x t r bad).2.2.hops, mapB bm (tellF x t r bad).2.2.bases, idA idp2 (tellF x t r bad).2.2.id]) := by
 obtain ⟨r1, hr1⟩ : ∃ q, (rdTake r 1).2 = q := ⟨_, rfl⟩
 obtain ⟨r2, hr2⟩ : ∃ q, (rdTake r1 1).2 = q := ⟨_, rfl⟩
 obtain ⟨ae, hae⟩ : ∃ q, u8F r = q := ⟨_, rfl⟩
 refine Spec.intro (N := 57) (args := [fp xb, fp b]) Tryz.func82 rfl rfl (by simp) ?_
 refine Run.seq fun _ hk1 => Zs fun _ hk2 => Mv 0 E3 <| Qp 1 E2 (Zn E2) <| Fa 2 E3 f185_1 <| Fa 3 E3 f49_0 <| Qq 4 E2 (Z1 E2 g5 ((PacketPiece.sub_tlv _).trans (Tlv.sub_type _))) ?_
 refine Qp 5 E2 (Ze E3) <| J.caseD (fun c12 => ?_) (fun c12 => ?_)
 ·refine Zl hk2 <| Zt <| Zs fun _ hk3 => Mv 0 E3 <| Qp 1 E2 (Zn E2) <| Fa 2 E3 f185_0 <| Qq 3 E2 (Z1 E2 g175 (PacketPiece.sub_reader _)) ?_
  refine Ef 4 E2 (Zc E2 ce72 Tk1 (fun F' hle hr => u16_spec F' (r := r))) ?_
  rintro _ _ ⟨_, ⟨rfl, rfl⟩, rfl⟩
  refine J.app <| Zl hk3 <| Run.seq fun _ hk4 => Zs fun _ hk5 => Mv 0 E3 <| Ef 1 E2 (Zc E2 ce117 Tk2 (fun F' hle hr => id_spec F' (bad := bad) (r := (rdTake r 2).2))) ?_
  rintro _ _ ⟨_, ⟨rfl, rfl⟩, rfl⟩
  refine J.app <| Ef 2 E2 (EF.allocA (l := (Bs.zero 8).enc) rfl zero42) ?_
  rintro _ _ ⟨b4, rfl, rfl⟩
  refine Ac 3 rfl (EF.storeA rfl rfl rfl z42 (SetL.all (Bs.len _) (Bs.len _)) (Bs.cell _)) ?_
  rintro _ _ rfl
  refine Zl hk5 <| Zs fun _ hk6 => Mv 0 E3 <| Ef 1 E2 (Zc E2 ce83 Tk2 (fun F' hle hr => sound_spec F' (bad := bad) (r := (rdTake (rdTake r 2).2 8).2))) ?_
  rintro _ _ ⟨_, ⟨rfl, rfl⟩, rfl⟩
  refine J.app <| J.caseB (fun c21 => ?_) (fun c21 => ?_)
  ·refine Mv 2 E3 <| Yq 3 E3 (Z0 E2 g42 (Bs.sub _)) ?_
   refine Ye 4 E3 (Zc E2 ce116 TN (fun F' hle hr => named_spec F' (idF (rdTake r 2).2))) ?_
   rintro _ _ ⟨_, ⟨rfl, rfl⟩, rfl⟩
   refine J.app <| J.caseB (fun c24 => ?_) (fun c24 => ?_)
   ·refine Pt 5 E4 <| Zl hk6 <| Zt <| Run.region <| Mv 0 E3 <| Qp 1 E2 (Zn E2) <| Fa 2 E3 f132_0 <| Fa 3 E3 f130_0 <| Ac 4 rfl (EF.store rfl rfl rfl z128 ((PacketParser.set_known _ _).trans (PacketParser.sub_known _) (PacketKnown.set_id_ _ _)) (cell_one rfl)) ?_
    rintro _ _ rfl
    refine Zl hk4 <| Run.ret ?_
    have hT : tellF x t r bad = ((rdTake (rdTake r 2).2 8).2, bad, { x with id := some (idF (rdTake r 2).2) }) := by unfold tellF; rw [if_pos c12, if_pos ⟨c21, c24⟩]
    refine J.close (A := idA (some ⟨b4, 0, none⟩) (some (idF (rdTake r 2).2))) (m := [blk b4 (Bs.enc (idF (rdTake r 2).2)) 42]) Tk1 (fun _ q => idA_some q) ?_
    rw [hT]
    exact J.ends (res_none rfl) Tk6 ⟨some ⟨b4, 0, none⟩, rfl, rfl⟩
   ·refine Pt 5 E4 <| Zl hk6 <| Zf <| Run.skip <| hk4 _ _ <| Run.ret ?_
    have hT : tellF x t r bad = ((rdTake (rdTake r 2).2 8).2, bad, x) := by unfold tellF; rw [if_pos c12, if_neg (fun h => by rw [c24] at h; cases h.2)]
    rw [hT]
    exact J.ends (res_none rfl) Tk6 ⟨idp, rfl, rfl⟩
  ·refine Mv 2 E3 <| Sk 3 E3 <| Sk 4 E3 <| Pf 5 E4 <| Zl hk6 <| Zf <| Run.skip <| hk4 _ _ <| Run.ret ?_
   have hT : tellF x t r bad = ((rdTake (rdTake r 2).2 8).2, bad, x) := by unfold tellF; rw [if_pos c12, if_neg (fun h => by rw [c21] at h; cases h.1)]
   rw [hT]
   exact J.ends (res_none rfl) Tk6 ⟨idp, rfl, rfl⟩
 ·refine Zl hk2 <| Zf <| Run.skip <| hk1 _ _ <| Zs fun _ hk7 => Mv 0 E3 <| Qp 1 E2 (Zn E2) <| Fa 2 E3 f185_0 <| Qq 3 E2 (Z1 E2 g175 (PacketPiece.sub_reader _)) ?_
  refine Ef 4 E2 (Zc E2 ce71 Tk1 (fun F' hle hr => u8_spec F' (r := r))) ?_
  rintro _ _ ⟨_, ⟨rfl, rfl⟩, rfl⟩
  refine J.app ?_
  rw [hae, hr1]
  refine Sg 5 E3 <| Zl hk7 <| Zs fun _ hk8 => Mv 0 E3 <| Qp 1 E2 (Zn E2) <| Fa 2 E3 f185_0 <| Qq 3 E2 (Z1 E2 g175 (PacketPiece.sub_reader _)) ?_
  refine Ef 4 E2 (Zc E2 ce71 Tk1 (fun F' hle hr => u8_spec F' (r := r1))) ?_
  rintro _ _ ⟨_, ⟨rfl, rfl⟩, rfl⟩
  refine J.app ?_
  rw [hr2]
  refine Zl hk8 <| Zs fun _ hk9 => Mv 0 E3 <| Mv 1 E3 <| Qp 2 E2 (Zq E3) <| Ef 3 E2 (Zc E2 ce111 Tk2 (fun F' hle hr => need_spec F' (bad := bad) (r := r2) (decide (ae ≠ 0)))) ?_
  rintro _ _ ⟨_, ⟨rfl, rfl⟩, rfl⟩
  refine J.app <| Zl hk9 <| Zs fun _ hk10 => Mv 0 E3 <| Mv 1 E3 <| Ef 2 E2 (Zc E2 ce79 Tk2 (fun F' hle hr => address_spec F' (bad := (bad || !decide (ae ≠ 0))) (r := r2) ae)) ?_
  rintro _ _ ⟨_, ⟨rfl, rfl⟩, rfl⟩
  refine J.app ?_
  generalize hAD : addrF ae r2 = AD
  refine Ef 3 E2 (EF.allocA (l := (Bs.zero 16).enc) rfl zero32) ?_
  rintro _ _ ⟨b6, rfl, rfl⟩
  refine Ac 4 rfl (EF.storeA rfl rfl rfl z32 (SetL.all (Bs.len _) (Bs.len _)) (Bs.cell _)) ?_
  rintro _ _ rfl
  refine Zl hk10 <| Zs fun _ hk11 => Mv 0 E3 <| Ef 1 E2 (Zc E2 ce83 Tk2 (fun F' hle hr => sound_spec F' (bad := ((bad || !decide (ae ≠ 0)) || AD.2.2)) (r := AD.2.1))) ?_
  rintro _ _ ⟨_, ⟨rfl, rfl⟩, rfl⟩
  refine J.app <| J.caseB (fun c48 => ?_) (fun c48 => ?_)
  ·refine Zl hk11 <| Zt <| Run.regionD (M := [0, 1, 3, 7, 15, 0, 32, 0, 255]) (q := 191) (r := 176) Kr ?_
   refine Dp 0 E2 (Zm E2) <| Dp 1 E2 (Zn E2) <| Dp 2 E2 (Za E2 f132_0) <| Dp 3 E2 (Za E2 f130_1) <| Dr 4 E2 (Z1 E2 g126 ((PacketParser.sub_known _).trans (PacketKnown.sub_hops _))) ?_
   refine Dr 5 E2 (Z0 E2 g32 (Bs.sub _)) ?_
   refine Dr 7 E2 (Z0 E2 g32 (Bs.sub _)) ?_
   refine De 6 <| Om [7, 4] rfl rfl (Zc E2 ce49 TN (fun F' hle hr => family_spec F' (AD.1))) ?_
   rintro _ _ ⟨_, ⟨rfl, rfl⟩, rfl⟩
   refine ⟨?_, ?_⟩
   ·rw [FM, FM]
    refine ⟨?_, ?_, NO⟩
    ·refine Look.app ?_
     exact Lk E3 (Z0 E2 g32 (Bs.sub _))
    ·refine Look.app ?_
     exact Lk E3 (Z1 E2 g126 ((PacketParser.sub_known _).trans (PacketKnown.sub_hops _)))
   refine ?_
   refine J.app <| De 8 <| Oa [] rfl (EF.mapUpdate (k := ⟨familyB AD.1, family_range _⟩) (v := AD.1) keyH rfl rfl rfl rfl Tryz.underlying126) ?_
   rintro _ _ rfl
   refine N0 <| Dn ?_
   have hT : tellF x t r bad = (AD.2.1, (bad || !decide (ae ≠ 0)) || AD.2.2, { x with hops := aset x.hops ⟨familyB AD.1, family_range _⟩ AD.1 }) := by unfold tellF; rw [if_neg c12, hae, hr1, hr2, hAD, if_pos c48, n64_eq (family_range _)]
   rw [hT]
   exact J.ends (res_none rfl) Tk6 ⟨idp, rfl, rfl⟩
  ·refine Zl hk11 <| Zf <| Run.skip ?_
   have hT : tellF x t r bad = (AD.2.1, (bad || !decide (ae ≠ 0)) || AD.2.2, x) := by unfold tellF; rw [if_neg c12, hae, hr1, hr2, hAD, if_neg (by rw [c48]; simp)]
   rw [hT]
   exact J.ends (res_none rfl) Tk6 ⟨idp, rfl, rfl⟩
end Slb
