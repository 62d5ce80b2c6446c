/- J4: a part of the proof that a law of this package holds for every input; no condition. -/
import Derived.Test.YtfokodhfjdhdaaaGreatM2
import Derived.Test.YtfokodhfjdhdaaaGreatJ3
namespace Slb
open Go Go.Proofs
set_option maxRecDepth 20000
/-! ### A packet's body -/
def openF (l : List UInt8) : List UInt8 × Int :=
 let r1 := (rdTake ⟨l, 0⟩ 1).2
 let r2 := (rdTake r1 1).2
 let r3 := (rdTake r2 2).2
 if r3.e ≠ 0 then ([], 3) else if u8F ⟨l, 0⟩ ≠ 42 then ([], 50) else if u8F r1 ≠ 2 then ([], 51) else if u16F r2 > r3.l.length then ([], 52) else ((rdTake r3 (u16F r2)).1, 0)
theorem RowsAt.bytes {S : List HProp} {F : Fr} {a : Option Addr} {c : Nat} {B : List UInt8} {e : TypeId} (hh : SlH a c B) (h : slA e 1 bytE (.slice a B.length c) B ∈ S) : RowsAt S F (.slice a B.length c) B.length 1 (bytesV B) := by
 have := RowsAt.ownH (F := F) (enc := bytE) (z := 1) (fun _ => rfl) hh h
 rwa [flat_byt] at this

theorem open_spec (F : Fr) {a : Option Addr} {c : Nat} {xs : List UInt8} (hx : xs.length ≤ 1000000) (ha : ArgSl F a 1 bytE xs) : Spec Tryz.prog 48 #[.slice a xs.length c] [] F (fun v S => ∃ va vt, v = .tuple #[va, vt, .int .i64 (openF xs).2] ∧ S = [slA 5 1 bytE va (openF xs).1]) := by
 refine Spec.intro (N := 45) (args := [.slice a xs.length c]) Tryz.func48 rfl rfl (by simp) ?_
 refine Zs fun _ hk1 => Sg 0 E3 <| Sg 1 E3 <| Sg 2 E3 <| Zl hk1 <| Zs fun _ hk2 => Mv 0 E3 <| Ef 1 E2 (Zc E2 ce70 TN (fun F' hle hr => newR F' hx (ha.mono hle))) ?_
 rintro _ _ ⟨_, ⟨rb, rfl, rfl⟩, rfl⟩
 refine J.app <| Sg 2 E3 <| Zl hk2 <| Zs fun _ hk3 => Mv 0 E3 <| Ef 1 E2 (Zc E2 ce71 Tk1 (fun F' hle hr => u8_spec F' (r := (⟨xs, 0⟩ : Rs)))) ?_
 rintro _ _ ⟨_, ⟨rfl, rfl⟩, rfl⟩
 refine J.app ?_
 generalize hr1 : (rdTake (⟨xs, 0⟩ : Rs) 1).2 = r1
 refine Mv 2 E3 <| Ef 3 E2 (Zc E2 ce71 Tk1 (fun F' hle hr => u8_spec F' (r := r1))) ?_
 rintro _ _ ⟨_, ⟨rfl, rfl⟩, rfl⟩
 refine J.app ?_
 generalize hr2 : (rdTake r1 1).2 = r2
 refine Mv 4 E3 <| Ef 5 E2 (Zc E2 ce72 Tk1 (fun F' hle hr => u16_spec F' (r := r2))) ?_
 rintro _ _ ⟨_, ⟨rfl, rfl⟩, rfl⟩
 refine J.app ?_
 generalize hr3 : (rdTake r2 2).2 = r3
 have hu := u16_range r2
 refine Sg 6 E3 <| Sg 7 E3 <| Sg 8 E3 <| Zl hk3 <| Zs fun _ hk4 => Mv 0 E3 <| Ef 1 E2 (Zc E2 ce73 Tk1 (fun F' hle hr => why_spec F' (r := r3))) ?_
 rintro _ _ ⟨_, ⟨sp, rfl, rfl⟩, rfl⟩
 refine J.app <| Mv 2 E3 <| Qp 3 E2 (Zx E3) <| Qp 4 E2 (Zx E3) <| Sg 5 E3 <| Sg 6 E3 <| Zl hk4 <| Run.seq fun _ hk5 => Run.block <| Zs fun _ hk6 => Mv 0 E3 <| Qp 1 E2 (Zq E3) <| J.caseD (fun c26 => ?_) (fun c26 => ?_)
 ·refine Sg 2 E3 <| Zl hk6 <| Zt <| Zs fun _ hk7 => J.addSl 5 1 bytE ?_
  refine Sg 0 E3 <| Sg 1 E3 <| Sg 2 E3 <| Zl hk7 <| Run.ret ?_
  have ho : openF xs = ([], 3) := by unfold openF; simp only [hr1, hr2, hr3]; rw [if_pos c26]
  rw [ho]
  exact J.ends (res_tmp3 rfl rfl rfl rfl) Tk1 ⟨_, _, rfl, rfl⟩
 ·refine Sg 2 E3 <| Zl hk6 <| Zf <| Zs fun _ hk8 => Mv 0 E3 <| Qp 1 E2 (Zq E3) <| J.caseD (fun c29 => ?_) (fun c29 => ?_)
  ·refine Sg 2 E3 <| Zl hk8 <| Zt <| Zs fun _ hk9 => J.addSl 5 1 bytE ?_
   refine Sg 0 E3 <| Sg 1 E3 <| Sg 2 E3 <| Zl hk9 <| Run.ret ?_
   have ho : openF xs = ([], 50) := by unfold openF; simp only [hr1, hr2, hr3]; rw [if_neg c26, if_pos c29]
   rw [ho]
   exact J.ends (res_tmp3 rfl rfl rfl rfl) Tk1 ⟨_, _, rfl, rfl⟩
  ·refine Sg 2 E3 <| Zl hk8 <| Zf <| Zs fun _ hk10 => Mv 0 E3 <| Qp 1 E2 (Zq E3) <| J.caseD (fun c32 => ?_) (fun c32 => ?_)
   ·refine Sg 2 E3 <| Zl hk10 <| Zt <| Zs fun _ hk11 => J.addSl 5 1 bytE ?_
    refine Sg 0 E3 <| Sg 1 E3 <| Sg 2 E3 <| Zl hk11 <| Run.ret ?_
    have ho : openF xs = ([], 51) := by unfold openF; simp only [hr1, hr2, hr3]; rw [if_neg c26, if_neg c29, if_pos c32]
    rw [ho]
    exact J.ends (res_tmp3 rfl rfl rfl rfl) Tk1 ⟨_, _, rfl, rfl⟩
   ·refine Sg 2 E3 <| Zl hk10 <| Zf <| Zs fun _ hk12 => Mv 0 E3 <| Qp 1 E2 (QP.conv rfl rfl Tryz.underlying40 Tryz.underlying3) ?_
    rw [wrap_i64 (n := u16F r2) (by omega) (by omega)]
    refine Mv 2 E3 <| Ef 3 E2 (Zc E2 ce74 Tk1 (fun F' hle hr => left_spec F' (r := r3))) ?_
    rintro _ _ ⟨_, ⟨rfl, rfl⟩, rfl⟩
    refine J.app <| Qp 4 E2 (QP.gtr rfl rfl rfl) <| J.caseD (fun c38 => ?_) (fun c38 => ?_)
    ·refine Sg 5 E3 <| Zl hk12 <| Zt <| Zs fun _ hk13 => J.addSl 5 1 bytE ?_
     refine Sg 0 E3 <| Sg 1 E3 <| Sg 2 E3 <| Zl hk13 <| Run.ret ?_
     have ho : openF xs = ([], 52) := by unfold openF; simp only [hr1, hr2, hr3]; rw [if_neg c26, if_neg c29, if_neg c32, if_pos c38]
     rw [ho]
     exact J.ends (res_tmp3 rfl rfl rfl rfl) Tk1 ⟨_, _, rfl, rfl⟩
    ·refine Sg 5 E3 <| Zl hk12 <| Zf <| Run.skip <| hk5 _ _ <| Zs fun _ hk14 => Mv 0 E3 <| Mv 1 E3 <| Qp 2 E2 (QP.conv rfl rfl Tryz.underlying40 Tryz.underlying3) ?_
     rw [wrap_i64 (n := u16F r2) (by omega) (by omega)]
     refine Ef 3 E2 (Zc E2 ce75 Tk1 (fun F' hle hr => bytes_spec F' (r := r3) (u16F r2))) ?_
     rintro v42 _ ⟨_, rfl, rfl⟩
     refine J.app <| Mv 4 E3 <| Ef 5 E2 (Zc E2 ce76 Tk1 (fun F' hle hr => rest_spec F' (r := (rdTake r3 (u16F r2)).2))) ?_
     rintro v44 _ ⟨_, rfl, rfl⟩
     refine J.app <| Sg 6 E3 <| Sg 7 E3 <| Sg 8 E3 <| Zl hk14 <| Run.ret ?_
     have ho : openF xs = ((rdTake r3 (u16F r2)).1, 0) := by unfold openF; simp only [hr1, hr2, hr3]; rw [if_neg c26, if_neg c29, if_neg c32, if_neg c38]
     rw [ho]
     exact J.ends (res_tmp3 rfl rfl rfl rfl) Tk1 ⟨_, _, rfl, rfl⟩

def soundB (bad : Bool) (r : Rs) : Bool := !bad && decide (r.e = 0)

theorem sound_spec (F : Fr) {b rb : Nat} {t : Tlv} {bad : Bool} {r : Rs}  : Spec Tryz.prog 83 #[fp b] [blk b (PacketPiece.enc ⟨some ⟨rb, 0, none⟩, t, bad⟩) 185, RdA rb r] F (fun v S => v = .bool (soundB bad r) ∧ S = [blk b (PacketPiece.enc ⟨some ⟨rb, 0, none⟩, t, bad⟩) 185, RdA rb r]) := by
 refine Spec.intro (N := 22) (args := [fp b]) Tryz.func83 rfl rfl (by simp) ?_
 refine Zs fun _ hk1 => Sg 0 E3 <| Zl hk1 <| Zs fun _ hk2 => Mv 0 E3 <| Qp 1 E2 (Zn E2) <| Fa 2 E3 f185_0 <| Qq 3 E2 (Z1 E2 g175 (PacketPiece.sub_reader _)) ?_
 refine Ef 4 E2 (Zc E2 ce73 Tk1 (fun F' hle hr => why_spec F' (r := r))) ?_
 rintro _ _ ⟨_, ⟨sp, rfl, rfl⟩, rfl⟩
 refine J.app <| Mv 5 E3 <| Qp 6 E2 (Zx E3) <| Qp 7 E2 (Zx E3) <| Sg 8 E3 <| Sg 9 E3 <| Zl hk2 <| Zs fun _ hk3 => Mv 0 E3 <| Qp 1 E2 (Zn E2) <| Fa 2 E3 f185_2 <| Qq 3 E2 (Z1 E2 g4 (PacketPiece.sub_bad _)) ?_
 refine J.caseB (fun c16 => ?_) (fun c16 => ?_)
 ·exact Qp 4 E2 (Zu E2) <| Mv 5 E3 <| Sk 6 E3 <| Sk 7 E3 <| Pf 8 E4 <| Sg 9 E3 <| Zl hk3 <| Run.ret <| J.ends (res_tmp rfl rfl) Tk2 ⟨by simp_all [soundB], rfl⟩
 ·exact Qp 4 E2 (Zu E2) <| Mv 5 E3 <| Ym 6 E4 <| Yp 7 E3 (Ze E3) <| Pt 8 E4 <| Sg 9 E3 <| Zl hk3 <| Run.ret <| J.ends (res_tmp rfl rfl) Tk2 ⟨by simp_all [soundB], rfl⟩

theorem need_spec (F : Fr) {b rb : Nat} {t : Tlv} {bad : Bool} {r : Rs} (ok : Bool)  : Spec Tryz.prog 111 #[fp b, .bool ok] [blk b (PacketPiece.enc ⟨some ⟨rb, 0, none⟩, t, bad⟩) 185, RdA rb r] F (fun v S => v = .tuple #[] ∧ S = [blk b (PacketPiece.enc ⟨some ⟨rb, 0, none⟩, t, (bad || !ok)⟩) 185, RdA rb r]) := by
 refine Spec.intro (N := 15) (args := [fp b, .bool ok]) Tryz.func111 rfl rfl (by simp) ?_
 refine Run.region <| Mv 0 E3 <| Mv 1 E3 <| Qp 2 E2 (Zn E2) <| Fa 3 E3 f185_2 <| Qq 4 E2 (Z1 E2 g4 (PacketPiece.sub_bad _)) ?_
 refine J.caseB (fun c8 => ?_) (fun c8 => ?_)
 ·refine Mv 5 E3 <| Sk 6 E3 <| Sk 7 E3 <| Pt 8 E4 <| Qp 9 E2 (Zn E2) <| Fa 10 E3 f185_2 <| Ac 11 rfl (EF.store rfl rfl rfl z4 (PacketPiece.set_bad _ _) (cell_one rfl)) ?_
  rintro _ _ rfl
  refine Sq.nil ?_
  rw [show (bad || !ok) = true by simp_all]
  exact J.ends (res_none rfl) Tk2 ⟨rfl, rfl⟩
 ·refine Mv 5 E3 <| Ym 6 E4 <| Yp 7 E3 (Zu E2) <| Pf 8 E4 <| Qp 9 E2 (Zn E2) <| Fa 10 E3 f185_2 <| Ac 11 rfl (EF.store rfl rfl rfl z4 (PacketPiece.set_bad _ _) (cell_one rfl)) ?_
  rintro _ _ rfl
  refine Sq.nil ?_
  rw [show (bad || !ok) = !ok by simp_all]
  exact J.ends (res_none rfl) Tk2 ⟨rfl, rfl⟩

theorem id_spec (F : Fr) {b rb : Nat} {t : Tlv} {bad : Bool} {r : Rs}  : Spec Tryz.prog 117 #[fp b] [blk b (PacketPiece.enc ⟨some ⟨rb, 0, none⟩, t, bad⟩) 185, RdA rb r] F (fun v S => v = .agg (Bs.enc ((Bs.zero 8).patch 0 (rdTake r 8).1)).toArray ∧ S = [blk b (PacketPiece.enc ⟨some ⟨rb, 0, none⟩, t, bad⟩) 185, RdA rb (rdTake r 8).2]) := by
 refine Spec.intro (N := 11) (args := [fp b]) Tryz.func117 rfl rfl (by simp) ?_
 refine Zs fun _ hk1 => Ef 0 E2 (EF.allocA (l := (Bs.zero 8).enc) rfl zero42) ?_
 rintro _ _ ⟨b2, rfl, rfl⟩
 refine Zl hk1 <| Run.seq fun _ hk2 => Run.regionD (M := [0, 0, 2, 6, 14, 30, 63]) (q := 31) (r := 16) Kr ?_
 refine Dp 0 E2 (QP.sliceArr rfl rfl Tryz.underlying42 z5) <| Dp 1 E2 (Zm E2) <| Dp 2 E2 (Zn E2) <| Dp 3 E2 (Za E2 f185_0) <| Dr 4 E2 (Z1 E2 g175 (PacketPiece.sub_reader _)) ?_
 refine De 5 <| Om [] rfl rfl (Zc E2 ce75 Tk1 (fun F' hle hr => bytes_spec F' (r := r) 8)) ?_
 rintro v8 _ ⟨_, rfl, rfl⟩
 refine N0 <| J.app ?_
 generalize hB : (rdTake r 8).1 = B
 refine Dw.slCase (v := v8) (xs := B) Rc (fun a8 c8 hv8 hh8 => ?_)
 subst hv8
 refine De 6 <| Om [] rfl rfl (EF.copySl (b := b2) (off := 0) (n := 8) (lo := 0) (k := 8) (ys := B) rfl rfl rfl rfl Tryz.underlying75 z5 (RowsAt.bytes hh8 Rc) (fun h => by omega) (Bs.setPatch (Bs.zero 8) B (by omega))) ?_
 rintro _ _ ⟨rfl, rfl⟩
 refine N0 <| Dn <| hk2 _ _ <| Zs fun _ hk3 => Qq 0 E2 (Z0 E2 g42 (Bs.sub _)) ?_
 refine Ac 1 rfl (EF.storeA rfl rfl rfl z42 (SetL.all (Bs.len _) (Bs.len _)) (Bs.cell _)) ?_
 rintro _ _ rfl
 exact Zl hk3 <| Run.ret <| J.ends (res_cell rfl rfl g42 (Bs.sub _)) Tk2 ⟨by rw [hB], rfl⟩

abbrev any4 : Prefix := ⟨⟨[0, 0, 0, 0, 0, 0, 0, 0, 0, 0, 255, 255, 0, 0, 0, 0], rfl⟩, ⟨96, by omega⟩⟩
def anyB (f : Int) : Prefix := if f = 4 then any4 else Prefix.zero
theorem set_any : SetL (Prefix.enc ⟨Bs.zero 16, ⟨96, by omega⟩⟩) 0 12 (bytesV [0, 0, 0, 0, 0, 0, 0, 0, 0, 0, 255, 255]) (Prefix.enc any4) := ⟨[], (Prefix.enc ⟨Bs.zero 16, ⟨96, by omega⟩⟩).take 12, (Prefix.enc ⟨Bs.zero 16, ⟨96, by omega⟩⟩).drop 12, by rfl, by rfl, rfl, by rfl, by rfl⟩

theorem shared4 (F : Fr)  : Spec Tryz.prog 147 #[.int .i64 4] [] F (fun v S => v = .int .i64 96 ∧ S = []) := by
 refine Spec.intro (N := 5) (args := [.int .i64 4]) Tryz.func147 rfl rfl (by simp) ?_
 exact Zs fun _ hk1 => Sg 0 E3 <| Zl hk1 <| Run.seq fun _ hk2 => Zs fun _ hk3 => Mv 0 E3 <| Qp 1 E2 (Ze E3) <| Zl hk3 <| Zt <| Zs fun _ hk4 => Sg 0 E3 <| Zl hk4 <| Run.ret <| Je E2 ⟨rfl, rfl⟩

theorem shared6 (F : Fr) (f : Int) (hf : f ≠ 4) : Spec Tryz.prog 147 #[.int .i64 f] [] F (fun v S => v = .int .i64 0 ∧ S = []) := by
 refine Spec.intro (N := 5) (args := [.int .i64 f]) Tryz.func147 rfl rfl (by simp) ?_
 refine Zs fun _ hk1 => Sg 0 E3 <| Zl hk1 <| Run.seq fun _ hk2 => Zs fun _ hk3 => Mv 0 E3 <| Qp 1 E2 (Ze E3) <| J.decF (hf) ?_
 exact Zl hk3 <| Zf <| Run.skip <| hk2 _ _ <| Zs fun _ hk4 => Sg 0 E3 <| Zl hk4 <| Run.ret <| Je E2 ⟨rfl, rfl⟩

theorem any4_spec (F : Fr)  : Spec Tryz.prog 113 #[.int .i64 4] [] F (fun v S => v = .agg (Prefix.enc any4).toArray ∧ S = []) := by
 refine Spec.intro (N := 13) (args := [.int .i64 4]) Tryz.func113 rfl rfl (by simp) ?_
 refine Zs fun _ hk1 => Ef 0 E2 (EF.allocA (l := Prefix.enc Prefix.zero) rfl zero44) ?_
 rintro _ _ ⟨b2, rfl, rfl⟩
 refine Zl hk1 <| Zs fun _ hk2 => Mv 0 E3 <| Ef 1 E2 (Zc E2 ce147 TN (fun F' hle hr => shared4 F')) ?_
 rintro _ _ ⟨_, ⟨rfl, rfl⟩, rfl⟩
 refine J.app <| Qp 2 E2 (QP.build (l := Prefix.enc ⟨(Bs.zero 16), (⟨96, by omega⟩ : I64)⟩) rfl st44 rfl (by exact ⟨rfl, trivial⟩) rfl) <| Ef 3 E2 (EF.allocA (l := Prefix.enc Prefix.zero) rfl zero44) ?_
 rintro _ _ ⟨b3, rfl, rfl⟩
 refine Ac 4 rfl (EF.storeA rfl rfl rfl z44 (SetL.all (Prefix.enc_len _) (Prefix.enc_len _)) (Prefix.enc_cell _)) ?_
 rintro _ _ rfl
 refine Zl hk2 <| Run.seq fun _ hk3 => Zs fun _ hk4 => Mv 0 E3 <| Qp 1 E2 (Ze E3) <| Zl hk4 <| Zt <| Run.region <| Fa 0 E3 f44_0 <| Qp 1 E2 (QP.sliceArr rfl rfl Tryz.underlying32 z5) <| Ef 2 E2 (EF.copyStr (xs := [0, 0, 0, 0, 0, 0, 0, 0, 0, 0, 255, 255]) rfl rfl rfl rfl Tryz.underlying75 z5 (by decide) set_any) ?_
 rintro _ _ ⟨rfl, rfl⟩
 refine Zl hk3 <| Zs fun _ hk5 => Qq 0 E2 (Z0 E2 g44 (Prefix.enc_sub _)) ?_
 refine Ac 1 rfl (EF.storeA rfl rfl rfl z44 (SetL.all (Prefix.enc_len _) (Prefix.enc_len _)) (Prefix.enc_cell _)) ?_
 rintro _ _ rfl
 exact Zl hk5 <| Run.ret <| J.ends (res_cell rfl rfl g44 (Prefix.enc_sub _)) TN ⟨rfl, rfl⟩

theorem any6_spec (F : Fr) (f : Int) (hf : f ≠ 4) : Spec Tryz.prog 113 #[.int .i64 f] [] F (fun v S => v = .agg (Prefix.enc Prefix.zero).toArray ∧ S = []) := by
 refine Spec.intro (N := 13) (args := [.int .i64 f]) Tryz.func113 rfl rfl (by simp) ?_
 refine Zs fun _ hk1 => Ef 0 E2 (EF.allocA (l := Prefix.enc Prefix.zero) rfl zero44) ?_
 rintro _ _ ⟨b2, rfl, rfl⟩
 refine Zl hk1 <| Zs fun _ hk2 => Mv 0 E3 <| Ef 1 E2 (Zc E2 ce147 TN (fun F' hle hr => shared6 F' f hf)) ?_
 rintro _ _ ⟨_, ⟨rfl, rfl⟩, rfl⟩
 refine J.app <| Qp 2 E2 (QP.build (l := Prefix.enc ⟨(Bs.zero 16), (⟨0, by omega⟩ : I64)⟩) rfl st44 rfl (by exact ⟨rfl, trivial⟩) rfl) <| Ef 3 E2 (EF.allocA (l := Prefix.enc Prefix.zero) rfl zero44) ?_
 rintro _ _ ⟨b3, rfl, rfl⟩
 refine Ac 4 rfl (EF.storeA rfl rfl rfl z44 (SetL.all (Prefix.enc_len _) (Prefix.enc_len _)) (Prefix.enc_cell _)) ?_
 rintro _ _ rfl
 refine Zl hk2 <| Run.seq fun _ hk3 => Zs fun _ hk4 => Mv 0 E3 <| Qp 1 E2 (Ze E3) <| J.decF (hf) ?_
 refine Zl hk4 <| Zf <| Run.skip <| hk3 _ _ <| Zs fun _ hk5 => Qq 0 E2 (Z0 E2 g44 (Prefix.enc_sub _)) ?_
 refine Ac 1 rfl (EF.storeA rfl rfl rfl z44 (SetL.all (Prefix.enc_len _) (Prefix.enc_len _)) (Prefix.enc_cell _)) ?_
 rintro _ _ rfl
 exact Zl hk5 <| Run.ret <| J.ends (res_cell rfl rfl g44 (Prefix.enc_sub _)) TN ⟨rfl, rfl⟩

theorem any_spec (F : Fr) (f : Int) : Spec Tryz.prog 113 #[.int .i64 f] [] F (fun v S => v = .agg (Prefix.enc (anyB f)).toArray ∧ S = []) := by
 by_cases hf : f = 4
 · subst hf; exact any4_spec F
 · have := any6_spec F f hf
   unfold anyB
   rw [if_neg hf]
   exact this

def llB : Bs 16 := ((Bs.zero 16).put 0 254).put 1 128
def addrF (ae : Int) (r : Rs) : Bs 16 × Rs × Bool :=
 if ae = 0 then (Bs.zero 16, r, false) else if ae = 1 then (any4.a.patch 12 (rdTake r 4).1, (rdTake r 4).2, false) else if ae = 2 then ((Bs.zero 16).patch 0 (rdTake r 16).1, (rdTake r 16).2, false)
 else if ae = 3 then (llB.patch 8 (rdTake r 8).1, (rdTake r 8).2, false) else (Bs.zero 16, r, true)

theorem address_spec (F : Fr) {b rb : Nat} {t : Tlv} {bad : Bool} {r : Rs} (ae : Int)  : Spec Tryz.prog 79 #[fp b, .int .u8 ae] [blk b (PacketPiece.enc ⟨some ⟨rb, 0, none⟩, t, bad⟩) 185, RdA rb r] F (fun v S => v = .agg (Bs.enc (addrF ae r).1).toArray ∧ S = [blk b (PacketPiece.enc ⟨some ⟨rb, 0, none⟩, t, (bad || (addrF ae r).2.2)⟩) 185, RdA rb (addrF ae r).2.1]) := by
 refine Spec.intro (N := 43) (args := [fp b, .int .u8 ae]) Tryz.func79 rfl rfl (by simp) ?_
 refine Zs fun _ hk1 => Ef 0 E2 (EF.allocA (l := (Bs.zero 16).enc) rfl zero32) ?_
 rintro _ _ ⟨b4, rfl, rfl⟩
 refine Zl hk1 <| Run.seq fun _ hk2 => Zs fun _ hk3 => Mv 0 E3 <| Zl hk3 <| Run.block <| Zs fun _ hk4 => Qp 0 E2 (Ze E3) <| J.caseD (fun c10 => ?_) (fun c10 => ?_)
 ·refine Sg 1 E3 <| Zl hk4 <| Zt <| Run.skip <| hk2 _ _ <| Zs fun _ hk5 => Qq 0 E2 (Z0 E2 g32 (Bs.sub _)) ?_
  refine Ac 1 rfl (EF.storeA rfl rfl rfl z32 (SetL.all (Bs.len _) (Bs.len _)) (Bs.cell _)) ?_
  rintro _ _ rfl
  refine Zl hk5 <| Run.ret ?_
  have ha : addrF ae r = (Bs.zero 16, r, false) := by unfold addrF; rw [if_pos c10]
  rw [ha]
  simp only [Bool.or_false]
  exact J.ends (res_cell rfl rfl g32 (Bs.sub _)) Tk2 ⟨rfl, rfl⟩
 ·refine Sg 1 E3 <| Zl hk4 <| Zf <| Zs fun _ hk6 => Qp 0 E2 (Ze E3) <| J.caseD (fun c12 => ?_) (fun c12 => ?_)
  ·refine Sg 1 E3 <| Zl hk6 <| Zt <| Zs fun _ hk7 => Ef 0 E2 (Zc E2 ce113 TN (fun F' hle hr => any4_spec F')) ?_
   rintro _ _ ⟨_, ⟨rfl, rfl⟩, rfl⟩
   refine J.app <| Qp 1 E2 (QP.field rfl rfl Tryz.underlying44 rfl rfl g32 (Prefix.sub_a _)) <| Ac 2 rfl (EF.storeA rfl rfl rfl z32 (SetL.all (Bs.len _) (Bs.len _)) (Bs.cell _)) ?_
   rintro _ _ rfl
   refine Zl hk7 <| Run.regionD (M := [0, 0, 2, 6, 14, 30, 63]) (q := 31) (r := 16) Kr ?_
   refine Dp 0 E2 (QP.sliceArrLo rfl rfl rfl Tryz.underlying32 z5 (by decide) (by decide)) <| Dp 1 E2 (Zm E2) <| Dp 2 E2 (Zn E2) <| Dp 3 E2 (Za E2 f185_0) <| Dr 4 E2 (Z1 E2 g175 (PacketPiece.sub_reader _)) ?_
   refine De 5 <| Om [] rfl rfl (Zc E2 ce75 Tk1 (fun F' hle hr => bytes_spec F' (r := r) 4)) ?_
   rintro v20 _ ⟨_, rfl, rfl⟩
   refine N0 <| J.app ?_
   generalize hB : (rdTake r 4).1 = B
   refine Dw.slCase (v := v20) (xs := B) Rc (fun a20 c20 hv20 hh20 => ?_)
   subst hv20
   refine De 6 <| Om [] rfl rfl (EF.copySl (b := b4) (off := 0) (n := 16) (lo := 12) (k := 4) (ys := B) rfl rfl rfl rfl Tryz.underlying75 z5 (RowsAt.bytes hh20 Rc) (fun h => by omega) (Bs.setPatch (any4.a) B (by omega))) ?_
   rintro _ _ ⟨rfl, rfl⟩
   refine N0 <| Dn <| hk2 _ _ <| Zs fun _ hk8 => Qq 0 E2 (Z0 E2 g32 (Bs.sub _)) ?_
   refine Ac 1 rfl (EF.storeA rfl rfl rfl z32 (SetL.all (Bs.len _) (Bs.len _)) (Bs.cell _)) ?_
   rintro _ _ rfl
   refine Zl hk8 <| Run.ret ?_
   have ha : addrF ae r = (any4.a.patch 12 (rdTake r 4).1, (rdTake r 4).2, false) := by unfold addrF; rw [if_neg c10, if_pos c12]
   rw [ha]
   simp only [Bool.or_false]
   rw [hB]
   exact J.ends (res_cell rfl rfl g32 (Bs.sub _)) Tk2 ⟨rfl, rfl⟩
  ·refine Sg 1 E3 <| Zl hk6 <| Zf <| Zs fun _ hk9 => Qp 0 E2 (Ze E3) <| J.caseD (fun c23 => ?_) (fun c23 => ?_)
   ·refine Sg 1 E3 <| Zl hk9 <| Zt <| Run.regionD (M := [0, 0, 2, 6, 14, 30, 63]) (q := 31) (r := 16) Kr ?_
    refine Dp 0 E2 (QP.sliceArr rfl rfl Tryz.underlying32 z5) <| Dp 1 E2 (Zm E2) <| Dp 2 E2 (Zn E2) <| Dp 3 E2 (Za E2 f185_0) <| Dr 4 E2 (Z1 E2 g175 (PacketPiece.sub_reader _)) ?_
    refine De 5 <| Om [] rfl rfl (Zc E2 ce75 Tk1 (fun F' hle hr => bytes_spec F' (r := r) 16)) ?_
    rintro v29 _ ⟨_, rfl, rfl⟩
    refine N0 <| J.app ?_
    generalize hB : (rdTake r 16).1 = B
    refine Dw.slCase (v := v29) (xs := B) Rc (fun a29 c29 hv29 hh29 => ?_)
    subst hv29
    refine De 6 <| Om [] rfl rfl (EF.copySl (b := b4) (off := 0) (n := 16) (lo := 0) (k := 16) (ys := B) rfl rfl rfl rfl Tryz.underlying75 z5 (RowsAt.bytes hh29 Rc) (fun h => by omega) (Bs.setPatch (Bs.zero 16) B (by omega))) ?_
    rintro _ _ ⟨rfl, rfl⟩
    refine N0 <| Dn <| hk2 _ _ <| Zs fun _ hk10 => Qq 0 E2 (Z0 E2 g32 (Bs.sub _)) ?_
    refine Ac 1 rfl (EF.storeA rfl rfl rfl z32 (SetL.all (Bs.len _) (Bs.len _)) (Bs.cell _)) ?_
    rintro _ _ rfl
    refine Zl hk10 <| Run.ret ?_
    have ha : addrF ae r = ((Bs.zero 16).patch 0 (rdTake r 16).1, (rdTake r 16).2, false) := by unfold addrF; rw [if_neg c10, if_neg c12, if_pos c23]
    rw [ha]
    simp only [Bool.or_false]
    rw [hB]
    exact J.ends (res_cell rfl rfl g32 (Bs.sub _)) Tk2 ⟨rfl, rfl⟩
   ·refine Sg 1 E3 <| Zl hk9 <| Zf <| Zs fun _ hk11 => Qp 0 E2 (Ze E3) <| J.caseD (fun c32 => ?_) (fun c32 => ?_)
    ·refine Sg 1 E3 <| Zl hk11 <| Zt <| Zs fun _ hk12 => Qp 0 E2 (QP.indexArr rfl rfl rfl Tryz.underlying32 z5 Og Og) <| Ac 1 rfl (EF.store rfl rfl rfl z5 (Bs.setAt (Bs.zero 16) (i := 0) (c := 254) (by omega) (by simp) rfl) (cell_one rfl)) ?_
     rintro _ _ rfl
     refine Qp 2 E2 (QP.indexArr rfl rfl rfl Tryz.underlying32 z5 Og Og) <| Ac 3 rfl (EF.store rfl rfl rfl z5 (Bs.setAt ((Bs.zero 16).put 0 254) (i := 1) (c := 128) (by omega) (by simp) rfl) (cell_one rfl)) ?_
     rintro _ _ rfl
     refine Zl hk12 <| Run.regionD (M := [0, 0, 2, 6, 14, 30, 63]) (q := 31) (r := 16) Kr ?_
     refine Dp 0 E2 (QP.sliceArrLo rfl rfl rfl Tryz.underlying32 z5 (by decide) (by decide)) <| Dp 1 E2 (Zm E2) <| Dp 2 E2 (Zn E2) <| Dp 3 E2 (Za E2 f185_0) <| Dr 4 E2 (Z1 E2 g175 (PacketPiece.sub_reader _)) ?_
     refine De 5 <| Om [] rfl rfl (Zc E2 ce75 Tk1 (fun F' hle hr => bytes_spec F' (r := r) 8)) ?_
     rintro v40 _ ⟨_, rfl, rfl⟩
     refine N0 <| J.app ?_
     generalize hB : (rdTake r 8).1 = B
     refine Dw.slCase (v := v40) (xs := B) Rc (fun a40 c40 hv40 hh40 => ?_)
     subst hv40
     refine De 6 <| Om [] rfl rfl (EF.copySl (b := b4) (off := 0) (n := 16) (lo := 8) (k := 8) (ys := B) rfl rfl rfl rfl Tryz.underlying75 z5 (RowsAt.bytes hh40 Rc) (fun h => by omega) (Bs.setPatch (llB) B (by omega))) ?_
     rintro _ _ ⟨rfl, rfl⟩
     refine N0 <| Dn <| hk2 _ _ <| Zs fun _ hk13 => Qq 0 E2 (Z0 E2 g32 (Bs.sub _)) ?_
     refine Ac 1 rfl (EF.storeA rfl rfl rfl z32 (SetL.all (Bs.len _) (Bs.len _)) (Bs.cell _)) ?_
     rintro _ _ rfl
     refine Zl hk13 <| Run.ret ?_
     have ha : addrF ae r = (llB.patch 8 (rdTake r 8).1, (rdTake r 8).2, false) := by unfold addrF; rw [if_neg c10, if_neg c12, if_neg c23, if_pos c32]
     rw [ha]
     simp only [Bool.or_false]
     rw [hB]
     exact J.ends (res_cell rfl rfl g32 (Bs.sub _)) Tk2 ⟨rfl, rfl⟩
    ·refine Sg 1 E3 <| Zl hk11 <| Zf <| Run.region <| Mv 0 E3 <| Qp 1 E2 (Zn E2) <| Fa 2 E3 f185_2 <| Ac 3 rfl (EF.store rfl rfl rfl z4 (PacketPiece.set_bad _ _) (cell_one rfl)) ?_
     rintro _ _ rfl
     refine Zl hk2 <| Zs fun _ hk14 => Qq 0 E2 (Z0 E2 g32 (Bs.sub _)) ?_
     refine Ac 1 rfl (EF.storeA rfl rfl rfl z32 (SetL.all (Bs.len _) (Bs.len _)) (Bs.cell _)) ?_
     rintro _ _ rfl
     refine Zl hk14 <| Run.ret ?_
     have ha : addrF ae r = (Bs.zero 16, r, true) := by unfold addrF; rw [if_neg c10, if_neg c12, if_neg c23, if_neg c32]
     rw [ha]
     simp only [Bool.or_true]
     exact J.ends (res_cell rfl rfl g32 (Bs.sub _)) Tk2 ⟨rfl, rfl⟩
end Slb
