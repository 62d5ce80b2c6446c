/- J71: a part of the proof that a law of this package holds for every input; no condition. -/
import Derived.Test.YtfokodhfjdhdaaaGreatM2
import Derived.Test.YtfokodhfjdhdaaaGreatJ70
namespace Slb
open Go Go.Proofs
set_option maxRecDepth 20000
theorem wrap32_in (n : Int) : 0 ≤ IntKind.u32.wrap n ∧ IntKind.u32.wrap n < 4294967296 := by
 unfold IntKind.wrap
 simp only [show (IntKind.u32.bits : Nat) = 32 from rfl, show IntKind.u32.signed = false from rfl]
 simp
 omega
@[reducible] def ptE (p : Nat) : List Value := [pv p]
/-- A Set's own row and its list, read only. -/
structure InS (F : Fr) (b : Nat) (a : Option Addr) (c : Nat) (bs : List Nat) : Prop where
 row : F.h b = some (.cells (IfaceSet.enc ⟨⟨a, bs.length, c⟩⟩).toArray 87 (0, 0))
 sl : ArgSl F a 1 ptE bs
theorem InS.mono {F F' : Fr} {b : Nat} {a : Option Addr} {c : Nat} {bs : List Nat} (h : InS F b a c bs) (hle : PH.le F.h F'.h) : InS F' b a c bs := ⟨hle _ _ h.row, h.sl.mono hle⟩

theorem get_ok (F : Fr) {b : Nat} {a : Option Addr} {c : Nat} {bs : List Nat} (hS : InS F b a c bs) {i bi : Nat} (hi : bs[i]? = some bi)  : Spec Tryz.prog 44 #[.pointer (some ⟨b, 0, none⟩), .int .i64 (i : Int)] [] F (fun v S => v = .tuple #[.pointer (some ⟨bi, 0, none⟩), .int .i64 0] ∧ S = []) := by
 have hlt : i < bs.length := (List.getElem?_eq_some_iff.1 hi).1
 obtain ⟨sb, so, rfl, hs0⟩ := hS.sl.get (by omega)
 refine Spec.intro (N := 28) (args := [.pointer (some ⟨b, 0, none⟩), .int .i64 (i : Int)]) Tryz.func44 rfl rfl (by simp) ?_
 refine Zs fun _ hk1 => Sg 0 E3 <| Sg 1 E3 <| Zl hk1 <| Run.seq fun _ hk2 => Run.block <| Zs fun _ hk3 => Mv 0 E3 <| Qp 1 E2 (QP.ptr_eq_nil rfl rfl rfl Tryz.underlying27) <| Sg 2 E3 <| Zl hk3 <| Zf <| Zs fun _ hk4 => Mv 0 E3 <| Qp 1 E2 (Zb E3) <| J.decF (by omega) ?_
 refine Mv 2 E3 <| Ym 3 E4 <| Ym 4 E4 <| Yp 5 E3 (Zn E2) <| Yf 6 E4 f87_0 <| Yq 7 E3 (QR.load1F rfl rfl g85 hS.row (IfaceSet.sub_l _)) ?_
 refine Yp 8 E3 (QP.len rfl rfl rfl Tryz.underlying85) <| Yp 9 E3 (QP.geq rfl rfl rfl) <| J.decF (by show ¬ (i : Int) ≥ (bs.length : Int); omega) ?_
 refine Pf 10 E4 <| Sg 11 E3 <| Zl hk4 <| Zf <| Run.skip <| hk2 _ _ <| Zs fun _ hk5 => Mv 0 E3 <| Qp 1 E2 (Zn E2) <| Fa 2 E3 f87_0 <| Qq 3 E2 (QR.load1F rfl rfl g85 hS.row (IfaceSet.sub_l _)) ?_
 refine Mv 4 E3 <| Qp 5 E2 (QP.indexAddr rfl rfl rfl Tryz.underlying85 z88 Og Og) <| Qq 6 E2 (QR.loadSl1 (ev := pv) rfl rfl g88 (hs0 _) hi) ?_
 exact Sg 7 E3 <| Sg 8 E3 <| Zl hk5 <| Run.ret <| J.ends (res_tmp2 rfl rfl rfl) TN ⟨rfl, rfl⟩

theorem ready_ok (F : Fr) {b : Nat} {a : Option Addr} {c : Nat} {bs : List Nat} (hS : InS F b a c bs) {i bi : Nat} (hi : bs[i]? = some bi) {o : IfaceOne}  : Spec Tryz.prog 33 #[.pointer (some ⟨b, 0, none⟩), .int .i64 (i : Int)] [blk bi (IfaceOne.enc o) 91] F (fun v S => v = .tuple #[.pointer (some ⟨bi, 0, none⟩), .int .i64 (if o.up = true then 0 else 7)] ∧ S = [blk bi (IfaceOne.enc o) 91]) := by
 refine Spec.intro (N := 25) (args := [.pointer (some ⟨b, 0, none⟩), .int .i64 (i : Int)]) Tryz.func33 rfl rfl (by simp) ?_
 refine Zs fun _ hk1 => Sg 0 E3 <| Sg 1 E3 <| Zl hk1 <| Zs fun _ hk2 => Mv 0 E3 <| Mv 1 E3 <| Ef 2 E2 (Zc E2 ce44 TN (fun F' hle hr => get_ok F' (hS.mono hle) hi)) ?_
 rintro _ _ ⟨_, ⟨rfl, rfl⟩, rfl⟩
 refine J.app <| Mv 3 E3 <| Qp 4 E2 (Zx E3) <| Qp 5 E2 (Zx E3) <| Sg 6 E3 <| Sg 7 E3 <| Zl hk2 <| Run.seq fun _ hk3 => Zs fun _ hk4 => Mv 0 E3 <| Qp 1 E2 (Ze E3) <| Mv 2 E3 <| Ym 3 E4 <| Yp 4 E3 (Zn E2) <| Yf 5 E4 f91_1 <| Yq 6 E3 (Z1 E2 g4 (IfaceOne.sub_up _)) ?_
 refine J.caseB (fun c20 => ?_) (fun c20 => ?_)
 ·exact Yp 7 E3 (Zu E2) <| Pt 8 E4 <| Zl hk4 <| Zf <| Run.skip <| hk3 _ _ <| Zs fun _ hk5 => Mv 0 E3 <| Mv 1 E3 <| Sg 2 E3 <| Sg 3 E3 <| Zl hk5 <| Run.ret <| J.ends (res_tmp2 rfl rfl rfl) Tk1 ⟨by rw [if_pos c20]; rfl, rfl⟩
 ·exact Yp 7 E3 (Zu E2) <| Pt 8 E4 <| Zl hk4 <| Zt <| Run.region <| Sg 0 E3 <| Zl hk3 <| Zs fun _ hk6 => Mv 0 E3 <| Mv 1 E3 <| Sg 2 E3 <| Sg 3 E3 <| Zl hk6 <| Run.ret <| J.ends (res_tmp2 rfl rfl rfl) Tk1 ⟨by rw [if_neg (by rw [c20]; simp)]; rfl, rfl⟩

theorem turn_ok (F : Fr) {b : Nat} {a : Option Addr} {c : Nat} {bs : List Nat} (hS : InS F b a c bs) {i bi : Nat} (hi : bs[i]? = some bi) {o : IfaceOne} (u : Bool)  : Spec Tryz.prog 31 #[.pointer (some ⟨b, 0, none⟩), .int .i64 (i : Int), .bool u] [blk bi (IfaceOne.enc o) 91] F (fun v S => v = .int .i64 (if o.up = u then (8 : Int) else 0) ∧ S = [blk bi (IfaceOne.enc (if o.up = u then o else { o with up := u, wait := none })) 91]) := by
 refine Spec.intro (N := 33) (args := [.pointer (some ⟨b, 0, none⟩), .int .i64 (i : Int), .bool u]) Tryz.func31 rfl rfl (by simp) ?_
 refine Zs fun _ hk1 => Sg 0 E3 <| Zl hk1 <| Zs fun _ hk2 => Mv 0 E3 <| Mv 1 E3 <| Ef 2 E2 (Zc E2 ce44 TN (fun F' hle hr => get_ok F' (hS.mono hle) hi)) ?_
 rintro _ _ ⟨_, ⟨rfl, rfl⟩, rfl⟩
 refine J.app <| Mv 3 E3 <| Qp 4 E2 (Zx E3) <| Qp 5 E2 (Zx E3) <| Sg 6 E3 <| Sg 7 E3 <| Zl hk2 <| Run.seq fun _ hk3 => Run.block <| Zs fun _ hk4 => Mv 0 E3 <| Qp 1 E2 (Zq E3) <| Sg 2 E3 <| Zl hk4 <| Zf <| Zs fun _ hk5 => Mv 0 E3 <| Qp 1 E2 (Zn E2) <| Fa 2 E3 f91_1 <| Qq 3 E2 (Z1 E2 g4 (IfaceOne.sub_up _)) ?_
 refine Mv 4 E3 <| Qp 5 E2 (QP.eqlB rfl rfl rfl Tryz.underlying4) <| J.caseB (fun c25 => ?_) (fun c25 => ?_)
 ·exact Sg 6 E3 <| Zl hk5 <| Zt <| Zs fun _ hk6 => Sg 0 E3 <| Zl hk6 <| Run.ret <| J.ends (res_tmp rfl rfl) Tk1 ⟨by rw [if_pos (beq_iff_eq.1 c25)], by rw [if_pos (beq_iff_eq.1 c25)]⟩
 ·refine Sg 6 E3 <| Zl hk5 <| Zf <| Run.skip <| hk3 _ _ <| Zs fun _ hk7 => Mv 0 E3 <| Mv 1 E3 <| Mv 2 E3 <| Qp 3 E2 (Zn E2) <| Fa 4 E3 f91_1 <| Ac 5 rfl (EF.store rfl rfl rfl z4 (IfaceOne.set_up _ _) (cell_one rfl)) ?_
  rintro _ _ rfl
  refine Qp 6 E2 (Zn E2) <| Fa 7 E3 f91_3 <| Ac 8 rfl (EF.store rfl rfl rfl z89 (IfaceOne.set_wait _ _) (cell_one rfl)) ?_
  rintro _ _ rfl
  exact Zl hk7 <| Zs fun _ hk8 => Sg 0 E3 <| Zl hk8 <| Run.ret <| J.ends (res_tmp rfl rfl) Tk1 ⟨by rw [if_neg (fun h => by rw [h] at c25; simp at c25)], by rw [if_neg (fun h => by rw [h] at c25; simp at c25)]⟩

theorem up_ok (F : Fr) {b : Nat} {a : Option Addr} {c : Nat} {bs : List Nat} (hS : InS F b a c bs) {i bi : Nat} (hi : bs[i]? = some bi) {o : IfaceOne}  : Spec Tryz.prog 11 #[.pointer (some ⟨b, 0, none⟩), .int .i64 (i : Int)] [blk bi (IfaceOne.enc o) 91] F (fun v S => v = .int .i64 (if o.up = true then (8 : Int) else 0) ∧ S = [blk bi (IfaceOne.enc (if o.up = true then o else { o with up := true, wait := none })) 91]) := by
 refine Spec.intro (N := 8) (args := [.pointer (some ⟨b, 0, none⟩), .int .i64 (i : Int)]) Tryz.func11 rfl rfl (by simp) ?_
 refine Zs fun _ hk1 => Sg 0 E3 <| Zl hk1 <| Zs fun _ hk2 => Mv 0 E3 <| Mv 1 E3 <| Ef 2 E2 (Zc E2 ce31 Tk1 (fun F' hle hr => turn_ok F' (hS.mono hle) hi true)) ?_
 rintro _ _ ⟨_, ⟨rfl, rfl⟩, rfl⟩
 exact J.app <| Sg 3 E3 <| Zl hk2 <| Run.ret <| J.ends (res_tmp rfl rfl) Tk1 ⟨rfl, rfl⟩

theorem down_ok (F : Fr) {b : Nat} {a : Option Addr} {c : Nat} {bs : List Nat} (hS : InS F b a c bs) {i bi : Nat} (hi : bs[i]? = some bi) {o : IfaceOne}  : Spec Tryz.prog 13 #[.pointer (some ⟨b, 0, none⟩), .int .i64 (i : Int)] [blk bi (IfaceOne.enc o) 91] F (fun v S => v = .int .i64 (if o.up = false then (8 : Int) else 0) ∧ S = [blk bi (IfaceOne.enc (if o.up = false then o else { o with up := false, wait := none })) 91]) := by
 refine Spec.intro (N := 8) (args := [.pointer (some ⟨b, 0, none⟩), .int .i64 (i : Int)]) Tryz.func13 rfl rfl (by simp) ?_
 refine Zs fun _ hk1 => Sg 0 E3 <| Zl hk1 <| Zs fun _ hk2 => Mv 0 E3 <| Mv 1 E3 <| Ef 2 E2 (Zc E2 ce31 Tk1 (fun F' hle hr => turn_ok F' (hS.mono hle) hi false)) ?_
 rintro _ _ ⟨_, ⟨rfl, rfl⟩, rfl⟩
 exact J.app <| Sg 3 E3 <| Zl hk2 <| Run.ret <| J.ends (res_tmp rfl rfl) Tk1 ⟨rfl, rfl⟩

theorem clock_spec (F : Fr) (n : Int) : Spec Tryz.prog 34 #[.int .i64 n] [] F (fun v S => ∃ m : Int, v = .int .u32 m ∧ (0 ≤ m ∧ m < 4294967296) ∧ m = IntKind.u32.wrap (IntKind.u32.wrap n * 1000) ∧ S = []) := by
 refine Spec.intro (N := 6) (args := [.int .i64 n]) Tryz.func34 rfl rfl (by simp) ?_
 exact Zs fun _ hk1 => Sg 0 E3 <| Zl hk1 <| Zs fun _ hk2 => Mv 0 E3 <| Qp 1 E2 (QP.conv rfl rfl Tryz.underlying3 Tryz.underlying101) <| Qp 2 E2 (QP.mul rfl rfl rfl) <| Sg 3 E3 <| Zl hk2 <| Run.ret <| Je E2 ⟨_, rfl, wrap32_in _, rfl, rfl⟩
end Slb
