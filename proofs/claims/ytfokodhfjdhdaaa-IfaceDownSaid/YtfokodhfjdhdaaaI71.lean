/- I71: a part of the proof that a law of this package holds for every input; no condition. -/
import Derived.Test.YtfokodhfjdhdaaaM2
import Derived.Test.YtfokodhfjdhdaaaI70
namespace Slb
open Go Go.Proofs
set_option maxRecDepth 20000
theorem wrap32_in (n : Int) : 0 ≤ IntKind.u32.wrap n ∧ IntKind.u32.wrap n < 4294967296 := by
  unfold IntKind.wrap
  simp only [show (IntKind.u32.bits : Nat) = 32 from rfl, show IntKind.u32.signed = false from rfl]
  simp
  omega
@[reducible] def ptE (p : Nat) : List Value := [pv p]
/-- A Set's own row and its list, read only. -/
structure InS (F : Fr) (b : Nat) (a : Option Addr) (c : Nat) (bs : List Nat) : Prop where
  row : F.h b = some (.cells (IfaceSet.enc ⟨⟨a, bs.length, c⟩⟩).toArray 72 (0, 0))
  sl : ArgSl F a 1 ptE bs
theorem InS.mono {F F' : Fr} {b : Nat} {a : Option Addr} {c : Nat} {bs : List Nat} (h : InS F b a c bs) (hle : PH.le F.h F'.h) : InS F' b a c bs := ⟨hle _ _ h.row, h.sl.mono hle⟩

theorem get_ok (F : Fr) {b : Nat} {a : Option Addr} {c : Nat} {bs : List Nat} (hS : InS F b a c bs) {i bi : Nat} (hi : bs[i]? = some bi)  : Spec Try.prog 25 #[.pointer (some ⟨b, 0, none⟩), .int .i64 (i : Int)] [] F (fun v S => v = .tuple #[.pointer (some ⟨bi, 0, none⟩), .int .i64 0] ∧ S = []) := by
 have hlt : i < bs.length := (List.getElem?_eq_some_iff.1 hi).1
 obtain ⟨sb, so, rfl, hs0⟩ := hS.sl.get (by omega)
 refine Spec.intro (N := 28) (args := [.pointer (some ⟨b, 0, none⟩), .int .i64 (i : Int)]) Try.func25 rfl rfl (by simp) ?_
 refine Run.seq fun k1 hk1 => Run.region ?_
 show Sq _ _ _ [0, 1] _ _ _ _
 refine Sg 0 rfl rfl rfl <| Sg 1 rfl rfl rfl <| Sq.nil <| hk1 _ _ <| Run.seq fun k2 hk2 => Run.block <| Run.seq fun k3 hk3 => Run.region ?_
 show Sq _ _ _ [0, 1, 2] _ _ _ _
 refine Mv 0 rfl rfl rfl <| Qp 1 rfl rfl (QP.ptr_eq_nil rfl rfl rfl Try.underlying31) <| Sg 2 rfl rfl rfl <| Sq.nil <| hk3 _ _ <| Run.cond_f rfl <| Run.seq fun k4 hk4 => Run.region ?_
 show Sq _ _ _ [0, 1, 2, 3, 4, 5, 6, 7, 8, 9, 10, 11] _ _ _ _
 refine Mv 0 rfl rfl rfl <| Qp 1 rfl rfl (QP.lss rfl rfl rfl) <| J.decF (by omega) ?_
 refine Mv 2 rfl rfl rfl <| Ym 3 rfl rfl rfl rfl <| Ym 4 rfl rfl rfl rfl <| Yp 5 rfl rfl rfl (QP.nilCheck rfl rfl) <| Yf 6 rfl rfl rfl rfl f72_0 <| Yq 7 rfl rfl rfl (QR.load1F rfl rfl g70 hS.row (IfaceSet.sub_l _)) ?_
 refine Yp 8 rfl rfl rfl (QP.len rfl rfl rfl Try.underlying70) <| Yp 9 rfl rfl rfl (QP.geq rfl rfl rfl) <| J.decF (by show ¬ (i : Int) ≥ (bs.length : Int); omega) ?_
 refine Pf 10 rfl rfl rfl rfl <| Sg 11 rfl rfl rfl <| Sq.nil <| hk4 _ _ <| Run.cond_f rfl <| Run.skip <| hk2 _ _ <| Run.seq fun k5 hk5 => Run.region ?_
 show Sq _ _ _ [0, 1, 2, 3, 4, 5, 6, 7, 8] _ _ _ _
 refine Mv 0 rfl rfl rfl <| Qp 1 rfl rfl (QP.nilCheck rfl rfl) <| Fa 2 rfl rfl rfl f72_0 <| Qq 3 rfl rfl (QR.load1F rfl rfl g70 hS.row (IfaceSet.sub_l _)) ?_
 refine Mv 4 rfl rfl rfl <| Qp 5 rfl rfl (QP.indexAddr rfl rfl rfl Try.underlying70 z73 Og Og) <| Qq 6 rfl rfl (QR.loadSl1 (ev := pv) rfl rfl g73 (hs0 _) hi) ?_
 refine Sg 7 rfl rfl rfl <| Sg 8 rfl rfl rfl <| Sq.nil <| hk5 _ _ <| Run.ret ?_
 exact J.ends (res_tmp2 rfl rfl rfl) Takes.nil ⟨rfl, rfl⟩

theorem ready_ok (F : Fr) {b : Nat} {a : Option Addr} {c : Nat} {bs : List Nat} (hS : InS F b a c bs) {i bi : Nat} (hi : bs[i]? = some bi) {o : IfaceOne}  : Spec Try.prog 22 #[.pointer (some ⟨b, 0, none⟩), .int .i64 (i : Int)] [blk bi (IfaceOne.enc o) 76] F (fun v S => v = .tuple #[.pointer (some ⟨bi, 0, none⟩), .int .i64 (if o.up = true then 0 else 7)] ∧ S = [blk bi (IfaceOne.enc o) 76]) := by
 refine Spec.intro (N := 25) (args := [.pointer (some ⟨b, 0, none⟩), .int .i64 (i : Int)]) Try.func22 rfl rfl (by simp) ?_
 refine Run.seq fun k1 hk1 => Run.region ?_
 show Sq _ _ _ [0, 1] _ _ _ _
 refine Sg 0 rfl rfl rfl <| Sg 1 rfl rfl rfl <| Sq.nil <| hk1 _ _ <| Run.seq fun k2 hk2 => Run.region ?_
 show Sq _ _ _ [0, 1, 2, 3, 4, 5, 6, 7] _ _ _ _
 refine Mv 0 rfl rfl rfl <| Mv 1 rfl rfl rfl <| Ef 2 rfl rfl (EF.call rfl ce25 rfl Takes.nil (fun F' hle hr => get_ok F' (hS.mono hle) hi)) ?_
 rintro _ _ ⟨_, ⟨rfl, rfl⟩, rfl⟩
 refine J.app ?_
 refine Mv 3 rfl rfl rfl <| Qp 4 rfl rfl (QP.extract rfl rfl rfl) <| Qp 5 rfl rfl (QP.extract rfl rfl rfl) <| Sg 6 rfl rfl rfl <| Sg 7 rfl rfl rfl <| Sq.nil <| hk2 _ _ <| Run.seq fun k3 hk3 => Run.seq fun k4 hk4 => Run.region ?_
 show Sq _ _ _ [0, 1, 2, 3, 4, 5, 6, 7, 8] _ _ _ _
 refine Mv 0 rfl rfl rfl <| Qp 1 rfl rfl (QP.eql rfl rfl rfl) <| Mv 2 rfl rfl rfl <| Ym 3 rfl rfl rfl rfl <| Yp 4 rfl rfl rfl (QP.nilCheck rfl rfl) <| Yf 5 rfl rfl rfl rfl f76_1 <| Yq 6 rfl rfl rfl (QR.load1 rfl rfl g4 (IfaceOne.sub_up _)) ?_
 refine J.caseB (fun c20 => ?_) (fun c20 => ?_)
 ·refine Yp 7 rfl rfl rfl (QP.not rfl rfl) <| Pt 8 rfl rfl rfl rfl <| Sq.nil <| hk4 _ _ <| Run.cond_f rfl <| Run.skip <| hk3 _ _ <| Run.seq fun k5 hk5 => Run.region ?_
  show Sq _ _ _ [0, 1, 2, 3] _ _ _ _
  refine Mv 0 rfl rfl rfl <| Mv 1 rfl rfl rfl <| Sg 2 rfl rfl rfl <| Sg 3 rfl rfl rfl <| Sq.nil <| hk5 _ _ <| Run.ret ?_
  exact J.ends (res_tmp2 rfl rfl rfl) Tk1 ⟨by rw [if_pos c20]; rfl, rfl⟩
 ·refine Yp 7 rfl rfl rfl (QP.not rfl rfl) <| Pt 8 rfl rfl rfl rfl <| Sq.nil <| hk4 _ _ <| Run.cond_t rfl <| Run.region ?_
  show Sq _ _ _ [0] _ _ _ _
  refine Sg 0 rfl rfl rfl <| Sq.nil <| hk3 _ _ <| Run.seq fun k6 hk6 => Run.region ?_
  show Sq _ _ _ [0, 1, 2, 3] _ _ _ _
  refine Mv 0 rfl rfl rfl <| Mv 1 rfl rfl rfl <| Sg 2 rfl rfl rfl <| Sg 3 rfl rfl rfl <| Sq.nil <| hk6 _ _ <| Run.ret ?_
  exact J.ends (res_tmp2 rfl rfl rfl) Tk1 ⟨by rw [if_neg (by rw [c20]; simp)]; rfl, rfl⟩

theorem turn_ok (F : Fr) {b : Nat} {a : Option Addr} {c : Nat} {bs : List Nat} (hS : InS F b a c bs) {i bi : Nat} (hi : bs[i]? = some bi) {o : IfaceOne} (u : Bool)  : Spec Try.prog 21 #[.pointer (some ⟨b, 0, none⟩), .int .i64 (i : Int), .bool u] [blk bi (IfaceOne.enc o) 76] F (fun v S => v = .int .i64 (if o.up = u then (8 : Int) else 0) ∧ S = [blk bi (IfaceOne.enc (if o.up = u then o else { o with up := u, wait := none })) 76]) := by
 refine Spec.intro (N := 33) (args := [.pointer (some ⟨b, 0, none⟩), .int .i64 (i : Int), .bool u]) Try.func21 rfl rfl (by simp) ?_
 refine Run.seq fun k1 hk1 => Run.region ?_
 show Sq _ _ _ [0] _ _ _ _
 refine Sg 0 rfl rfl rfl <| Sq.nil <| hk1 _ _ <| Run.seq fun k2 hk2 => Run.region ?_
 show Sq _ _ _ [0, 1, 2, 3, 4, 5, 6, 7] _ _ _ _
 refine Mv 0 rfl rfl rfl <| Mv 1 rfl rfl rfl <| Ef 2 rfl rfl (EF.call rfl ce25 rfl Takes.nil (fun F' hle hr => get_ok F' (hS.mono hle) hi)) ?_
 rintro _ _ ⟨_, ⟨rfl, rfl⟩, rfl⟩
 refine J.app ?_
 refine Mv 3 rfl rfl rfl <| Qp 4 rfl rfl (QP.extract rfl rfl rfl) <| Qp 5 rfl rfl (QP.extract rfl rfl rfl) <| Sg 6 rfl rfl rfl <| Sg 7 rfl rfl rfl <| Sq.nil <| hk2 _ _ <| Run.seq fun k3 hk3 => Run.block <| Run.seq fun k4 hk4 => Run.region ?_
 show Sq _ _ _ [0, 1, 2] _ _ _ _
 refine Mv 0 rfl rfl rfl <| Qp 1 rfl rfl (QP.neq rfl rfl rfl) <| Sg 2 rfl rfl rfl <| Sq.nil <| hk4 _ _ <| Run.cond_f rfl <| Run.seq fun k5 hk5 => Run.region ?_
 show Sq _ _ _ [0, 1, 2, 3, 4, 5, 6] _ _ _ _
 refine Mv 0 rfl rfl rfl <| Qp 1 rfl rfl (QP.nilCheck rfl rfl) <| Fa 2 rfl rfl rfl f76_1 <| Qq 3 rfl rfl (QR.load1 rfl rfl g4 (IfaceOne.sub_up _)) ?_
 refine Mv 4 rfl rfl rfl <| Qp 5 rfl rfl (QP.eqlB rfl rfl rfl Try.underlying4) <| J.caseB (fun c25 => ?_) (fun c25 => ?_)
 ·refine Sg 6 rfl rfl rfl <| Sq.nil <| hk5 _ _ <| Run.cond_t rfl <| Run.seq fun k6 hk6 => Run.region ?_
  show Sq _ _ _ [0] _ _ _ _
  refine Sg 0 rfl rfl rfl <| Sq.nil <| hk6 _ _ <| Run.ret ?_
  exact J.ends (res_tmp rfl rfl) Tk1 ⟨by rw [if_pos (beq_iff_eq.1 c25)], by rw [if_pos (beq_iff_eq.1 c25)]⟩
 ·refine Sg 6 rfl rfl rfl <| Sq.nil <| hk5 _ _ <| Run.cond_f rfl <| Run.skip <| hk3 _ _ <| Run.seq fun k7 hk7 => Run.region ?_
  show Sq _ _ _ [0, 1, 2, 3, 4, 5, 6, 7, 8] _ _ _ _
  refine Mv 0 rfl rfl rfl <| Mv 1 rfl rfl rfl <| Mv 2 rfl rfl rfl <| Qp 3 rfl rfl (QP.nilCheck rfl rfl) <| Fa 4 rfl rfl rfl f76_1 <| Ac 5 rfl (EF.store rfl rfl rfl z4 (IfaceOne.set_up _ _) (cell_one rfl)) ?_
  rintro _ _ rfl
  refine Qp 6 rfl rfl (QP.nilCheck rfl rfl) <| Fa 7 rfl rfl rfl f76_3 <| Ac 8 rfl (EF.store rfl rfl rfl z74 (IfaceOne.set_wait _ _) (cell_one rfl)) ?_
  rintro _ _ rfl
  refine Sq.nil <| hk7 _ _ <| Run.seq fun k8 hk8 => Run.region ?_
  show Sq _ _ _ [0] _ _ _ _
  refine Sg 0 rfl rfl rfl <| Sq.nil <| hk8 _ _ <| Run.ret ?_
  exact J.ends (res_tmp rfl rfl) Tk1 ⟨by rw [if_neg (fun h => by rw [h] at c25; simp at c25)], by rw [if_neg (fun h => by rw [h] at c25; simp at c25)]⟩

theorem up_ok (F : Fr) {b : Nat} {a : Option Addr} {c : Nat} {bs : List Nat} (hS : InS F b a c bs) {i bi : Nat} (hi : bs[i]? = some bi) {o : IfaceOne}  : Spec Try.prog 10 #[.pointer (some ⟨b, 0, none⟩), .int .i64 (i : Int)] [blk bi (IfaceOne.enc o) 76] F (fun v S => v = .int .i64 (if o.up = true then (8 : Int) else 0) ∧ S = [blk bi (IfaceOne.enc (if o.up = true then o else { o with up := true, wait := none })) 76]) := by
 refine Spec.intro (N := 8) (args := [.pointer (some ⟨b, 0, none⟩), .int .i64 (i : Int)]) Try.func10 rfl rfl (by simp) ?_
 refine Run.seq fun k1 hk1 => Run.region ?_
 show Sq _ _ _ [0] _ _ _ _
 refine Sg 0 rfl rfl rfl <| Sq.nil <| hk1 _ _ <| Run.seq fun k2 hk2 => Run.region ?_
 show Sq _ _ _ [0, 1, 2, 3] _ _ _ _
 refine Mv 0 rfl rfl rfl <| Mv 1 rfl rfl rfl <| Ef 2 rfl rfl (EF.call rfl ce21 rfl Tk1 (fun F' hle hr => turn_ok F' (hS.mono hle) hi true)) ?_
 rintro _ _ ⟨_, ⟨rfl, rfl⟩, rfl⟩
 refine J.app ?_
 refine Sg 3 rfl rfl rfl <| Sq.nil <| hk2 _ _ <| Run.ret ?_
 exact J.ends (res_tmp rfl rfl) Tk1 ⟨rfl, rfl⟩

theorem down_ok (F : Fr) {b : Nat} {a : Option Addr} {c : Nat} {bs : List Nat} (hS : InS F b a c bs) {i bi : Nat} (hi : bs[i]? = some bi) {o : IfaceOne}  : Spec Try.prog 13 #[.pointer (some ⟨b, 0, none⟩), .int .i64 (i : Int)] [blk bi (IfaceOne.enc o) 76] F (fun v S => v = .int .i64 (if o.up = false then (8 : Int) else 0) ∧ S = [blk bi (IfaceOne.enc (if o.up = false then o else { o with up := false, wait := none })) 76]) := by
 refine Spec.intro (N := 8) (args := [.pointer (some ⟨b, 0, none⟩), .int .i64 (i : Int)]) Try.func13 rfl rfl (by simp) ?_
 refine Run.seq fun k1 hk1 => Run.region ?_
 show Sq _ _ _ [0] _ _ _ _
 refine Sg 0 rfl rfl rfl <| Sq.nil <| hk1 _ _ <| Run.seq fun k2 hk2 => Run.region ?_
 show Sq _ _ _ [0, 1, 2, 3] _ _ _ _
 refine Mv 0 rfl rfl rfl <| Mv 1 rfl rfl rfl <| Ef 2 rfl rfl (EF.call rfl ce21 rfl Tk1 (fun F' hle hr => turn_ok F' (hS.mono hle) hi false)) ?_
 rintro _ _ ⟨_, ⟨rfl, rfl⟩, rfl⟩
 refine J.app ?_
 refine Sg 3 rfl rfl rfl <| Sq.nil <| hk2 _ _ <| Run.ret ?_
 exact J.ends (res_tmp rfl rfl) Tk1 ⟨rfl, rfl⟩

theorem clock_spec (F : Fr) (n : Int) : Spec Try.prog 31 #[.int .i64 n] [] F (fun v S => ∃ m : Int, v = .int .u32 m ∧ (0 ≤ m ∧ m < 4294967296) ∧ m = IntKind.u32.wrap (IntKind.u32.wrap n * 1000) ∧ S = []) := by
 refine Spec.intro (N := 6) (args := [.int .i64 n]) Try.func31 rfl rfl (by simp) ?_
 refine Run.seq fun k1 hk1 => Run.region ?_
 show Sq _ _ _ [0] _ _ _ _
 refine Sg 0 rfl rfl rfl <| Sq.nil <| hk1 _ _ <| Run.seq fun k2 hk2 => Run.region ?_
 show Sq _ _ _ [0, 1, 2, 3] _ _ _ _
 refine Mv 0 rfl rfl rfl <| Qp 1 rfl rfl (QP.conv rfl rfl Try.underlying3 Try.underlying94) <| Qp 2 rfl rfl (QP.mul rfl rfl rfl) <| Sg 3 rfl rfl rfl <| Sq.nil <| hk2 _ _ <| Run.ret ?_
 exact J.ends (res_tmp rfl rfl) Takes.nil ⟨_, rfl, wrap32_in _, rfl, rfl⟩
end Slb
