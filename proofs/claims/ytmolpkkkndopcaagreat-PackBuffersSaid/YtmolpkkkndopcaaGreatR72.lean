/- R72: a part of the proof that a law of this package holds for every input; no condition. -/
import Derived.Test.YtmolpkkkndopcaaGreatM2
import Derived.Test.YtmolpkkkndopcaaGreatR71
namespace Slb
open Go Go.Proofs
set_option maxRecDepth 20000
/-- A list of lists of Tlvs, as it comes in. -/
structure TlsX where
  a : Option Addr
  c : Nat
  l : List TlvX
@[reducible] def tlsE (y : TlsX) : List Value := [.slice y.a y.l.length y.c]
@[reducible] def boE (b : Bool) : List Value := [.bool b]
def TlsIn (F : Fr) (y : TlsX) : Prop := ArgSl F y.a 68 tlvE y.l ∧ (∀ x ∈ y.l, TlvIn F x) ∧ (∀ x ∈ y.l, (tlvS x).WF) ∧ (∀ x ∈ y.l, ∀ n ∈ x.l, 0 ≤ n ∧ n < 4294967296) ∧ y.l.length ≤ 9223372036854775807
/-- What waits. -/
def GoodL (F : Fr) (src : Bs 16) (mtu : Int) (us : List TlvX) : Prop := ∀ x ∈ us, TlvIn F x ∧ (tlvS x).WF ∧ (∀ n ∈ x.l, 0 ≤ n ∧ n < 4294967296) ∧ x.l.length ≤ 200 ∧ fitsF src mtu (tlvS x) x.l = 0
theorem GoodL.app {F : Fr} {src : Bs 16} {mtu : Int} {us : List TlvX} {y : TlsX} (h : GoodL F src mtu us) (hy : TlsIn F y) (hb : ∀ x ∈ y.l, x.l.length ≤ 200) (he : addErr src mtu y.l = 0) : GoodL F src mtu (us ++ y.l) := fun x hx => by
  rcases List.mem_append.1 hx with hx | hx
  · exact h x hx
  · exact ⟨hy.2.1 x hx, hy.2.2.1 x hx, hy.2.2.2.1 x hx, hb x hx, addErr_zero he x hx⟩
theorem addErr_all {src : Bs 16} {mtu : Int} : ∀ {ts : List TlvX}, (∀ x ∈ ts, fitsF src mtu (tlvS x) x.l = 0) → addErr src mtu ts = 0
  | [], _ => rfl
  | x :: xs, h => by
    rw [addErr, if_neg (by rw [h x (by simp)]; decide)]
    exact addErr_all fun z hz => h z (by simp [hz])
theorem packF_good {src : Bs 16} {mtu : Int} {ts : List TlvX} (hm : ¬ (mtu < 64 ∨ mtu > 65539)) (h : ∀ x ∈ ts, fitsF src mtu (tlvS x) x.l = 0) : packF src mtu ts = flushF src mtu (ts.map tlvM) := by
  have hp : packErr src mtu ts = 0 := by unfold packErr; rw [if_neg hm]; exact addErr_all h
  unfold packF
  rw [hp, if_neg (by decide)]

theorem addb_nil (F : Fr)  : Spec Tryz.prog 15 #[.pointer none, .slice none 0 0] [] F (fun v S => v = .int .i64 7 ∧ S = []) := by
 refine Spec.intro (N := 54) (args := [.pointer none, .slice none 0 0]) Tryz.func15 rfl rfl (by simp) ?_
 exact Zs fun _ hk1 => Sg 0 E3 <| Zl hk1 <| Run.seq fun _ hk2 => Zs fun _ hk3 => Mv 0 E3 <| Qp 1 E2 (QP.ptr_eq_nil rfl rfl rfl Tryz.underlying51) <| Zl hk3 <| Zt <| Zs fun _ hk4 => Sg 0 E3 <| Zl hk4 <| Run.ret <| J.ends (res_tmp rfl rfl) Takes.nil ⟨rfl, rfl⟩

theorem len_nil (F : Fr)  : Spec Tryz.prog 16 #[.pointer none] [] F (fun v S => v = .int .i64 0 ∧ S = []) := by
 refine Spec.intro (N := 10) (args := [.pointer none]) Tryz.func16 rfl rfl (by simp) ?_
 exact Zs fun _ hk1 => Sg 0 E3 <| Zl hk1 <| Run.seq fun _ hk2 => Zs fun _ hk3 => Mv 0 E3 <| Qp 1 E2 (QP.ptr_eq_nil rfl rfl rfl Tryz.underlying51) <| Zl hk3 <| Zt <| Zs fun _ hk4 => Sg 0 E3 <| Zl hk4 <| Run.ret <| J.ends (res_tmp rfl rfl) Takes.nil ⟨rfl, rfl⟩

theorem flush_nil (F : Fr)  : Spec Tryz.prog 17 #[.pointer none] [] F (fun v S => v = .slice none 0 0 ∧ S = []) := by
 refine Spec.intro (N := 54) (args := [.pointer none]) Tryz.func17 rfl rfl (by simp) ?_
 refine Zs fun _ hk1 => Ef 0 E2 (EF.alloc1 rfl zero27 rfl) ?_
 rintro _ _ ⟨b2, rfl, rfl⟩
 refine Zl hk1 <| Run.seq fun _ hk2 => Zs fun _ hk3 => Mv 0 E3 <| Ef 1 E2 (EF.call rfl ce16 rfl Takes.nil (fun F' hle hr => len_nil F')) ?_
 rintro _ _ ⟨_, ⟨rfl, rfl⟩, rfl⟩
 refine J.app <| Qp 2 E2 (Ze E3) <| Zl hk3 <| Zt <| Zs fun _ hk4 => Ac 0 rfl (EF.store rfl rfl rfl z27 SetL.one (cell_one rfl)) ?_
 rintro _ _ rfl
 exact Zl hk4 <| Run.ret <| J.ends (res_cell1 rfl rfl g27) Takes.nil ⟨rfl, rfl⟩

set_option maxHeartbeats 1000000 in
theorem law_buffers_bad (F : Fr) (src : Bs 16) {mtu : Int} (hm : mtu < 64 ∨ mtu > 65539) {ls : List TlsX} {a2 : Option Addr} {c2 : Nat} (ha : ArgSl F a2 1 tlsE ls) (hls : ∀ y ∈ ls, TlsIn F y) (hnn : ls.length ≤ 9223372036854775807) {fs : List Bool} {a3 : Option Addr} {c3 : Nat} (hf : ArgSl F a3 1 boE fs) (hfn : fs.length ≤ 9223372036854775807)  : Spec Tryz.prog 4 #[.agg (Bs.enc src).toArray, .int .i64 mtu, .slice a2 ls.length c2, .slice a3 fs.length c3] [] F (fun v S => v = .bool true ∧ S = []) := by
 have hP : packErr src mtu [] = 2 := by unfold packErr; rw [if_pos hm]
 refine Spec.intro (N := 143) (args := [.agg (Bs.enc src).toArray, .int .i64 mtu, .slice a2 ls.length c2, .slice a3 fs.length c3]) Tryz.func4 rfl rfl (by simp) ?_
 refine Zs fun _ hk1 => Ef 0 E2 (EF.boxA rfl rfl) ?_
 rintro _ _ ⟨b4, rfl, rfl⟩
 refine Sg 1 E3 <| Zl hk1 <| Run.seq fun _ hk2 => Zs fun _ hk3 => Mv 0 E3 <| Qp 1 E2 (QP.len rfl rfl rfl Tryz.underlying49) <| Qp 2 E2 (QP.gtr rfl rfl rfl) <| J.caseD (fun c22 => ?_) (fun c22 => ?_)
 ·refine Mv 3 E3 <| Sk 4 E3 <| Sk 5 E3 <| Sk 6 E3 <| Sk 7 E3 <| Sk 8 E3 <| Pt 9 E4 <| Zl hk3 <| Zt <| Zs fun _ hk4 => Ef 0 E2 (EF.call rfl ce6 rfl Takes.nil (fun F' hle hr => live7_spec F')) ?_
  rintro _ _ ⟨_, ⟨rfl, rfl⟩, rfl⟩
  exact J.app <| Sg 1 E3 <| Zl hk4 <| Run.ret <| J.ends (res_tmp rfl rfl) Takes.nil ⟨rfl, rfl⟩
 ·refine Mv 3 E3 <| Ym 4 E4 <| Yp 5 E3 (QP.len rfl rfl rfl Tryz.underlying50) <| Ym 6 E4 <| Yp 7 E3 (QP.len rfl rfl rfl Tryz.underlying49) <| Yp 8 E3 (Zb E3) <| J.caseD (fun c28 => ?_) (fun c28 => ?_)
  ·refine Pf 9 E4 <| Zl hk3 <| Zt <| Zs fun _ hk5 => Ef 0 E2 (EF.call rfl ce6 rfl Takes.nil (fun F' hle hr => live7_spec F')) ?_
   rintro _ _ ⟨_, ⟨rfl, rfl⟩, rfl⟩
   exact J.app <| Sg 1 E3 <| Zl hk5 <| Run.ret <| J.ends (res_tmp rfl rfl) Takes.nil ⟨rfl, rfl⟩
  ·refine Pf 9 E4 <| Zl hk3 <| Zf <| Run.skip <| hk2 _ _ <| Zs fun _ hk6 => Qq 0 E2 (Z0 E2 g23 (Bs.sub _)) ?_
   refine Mv 1 E3 <| Ef 2 E2 (EF.call rfl ce14 rfl Takes.nil (fun F' hle hr => new_bad F' src hm)) ?_
   rintro _ _ ⟨_, ⟨rfl, rfl⟩, rfl⟩
   refine J.app <| Mv 3 E3 <| Qp 4 E2 (Zx E3) <| Qp 5 E2 (Zx E3) <| Sg 6 E3 <| Sg 7 E3 <| Zl hk6 <| Zs fun _ hk7 => Qq 0 E2 (Z0 E2 g23 (Bs.sub _)) ?_
   refine Mv 1 E3 <| Ef 2 E2 (EF.call rfl ce8 rfl Takes.nil (fun F' hle hr => rpack_spec F' src (mtu := mtu) (ts := []) (a := none) (c := 0) (fun h0 => absurd h0 (by simp)) (fun x hx => by cases hx) (fun x hx => by cases hx) (fun x hx => by cases hx) (by simp) (fun x hx => by cases hx))) ?_
   rintro _ _ ⟨_, ⟨ps9, pa9, pc9, rfl, hps9, rfl⟩, rfl⟩
   refine J.app <| Mv 3 E3 <| Qp 4 E2 (Zx E3) <| Qp 5 E2 (Zx E3) <| Sg 6 E3 <| Sg 7 E3 <| Zl hk7 <| Run.seq fun _ hk8 => Zs fun _ hk9 => Mv 0 E3 <| Ef 1 E2 (EF.call rfl ce10 rfl Takes.nil (fun F' hle hr => num7_spec F' _)) ?_
   rintro _ _ ⟨_, ⟨rfl, rfl⟩, rfl⟩
   refine J.app <| Mv 2 E3 <| Qp 3 E2 (Zq E3) <| J.decF (by rw [hP]; decide) ?_
   refine Mv 4 E3 <| Ym 5 E4 <| Yp 6 E3 (QP.ptr_eq_nil rfl rfl rfl Tryz.underlying51) <| Ym 7 E4 <| Yp 8 E3 (Zq E3) <| J.decT (by rw [hP]; decide) ?_
   refine Yp 9 E3 (QP.neqB rfl rfl rfl Tryz.underlying4) <| J.boolF (rfl) ?_
   refine Pf 10 E4 <| Zl hk9 <| Zf <| Run.skip <| hk8 _ _ <| Zs fun _ hk10 => Sg 0 E3 <| Zl hk10 <| Run.seq fun _ hk11 => Zs fun _ hk12 => Sg 0 E3 <| Zl hk12 <| Run.block <| Run.loop1 (fun (i : Nat) => i = 0) (fun i => .cons 2 (.slice a2 ls.length c2) (.cons 9 (.pointer none) (.cons 14 (.int .i64 i) (.nil)))) (fun i => []) (fun i => 0) (0) (rfl) ?_ ?_
   ·exact fun _ j => J.envJ (J.keep Takes.nil j) ⟨rfl, rfl, rfl, trivial⟩
   rintro i hi0 kl13 hl13
   refine Run.seq fun _ hk14 => Zs fun _ hk15 => Mv 0 E3 <| Mv 1 E3 <| Qp 2 E2 (QP.len rfl rfl rfl Tryz.underlying49) <| Qp 3 E2 (Zb E3) <| J.caseD (fun c57 => ?_) (fun c57 => ?_)
   ·refine Mv 4 E3 <| Ym 5 E4 <| Yp 6 E3 (QP.ptr_ne_nil rfl rfl rfl Tryz.underlying51) <| Pt 7 E4 <| Zl hk15 <| Zf <| Run.exit rfl <| hk11 _ _ <| Zs fun _ hk16 => Sg 0 E3 <| Zl hk16 <| Zs fun _ hk17 => Mv 0 E3 <| Ef 1 E2 (EF.call rfl ce15 rfl Takes.nil (fun F' hle hr => addb_nil F')) ?_
    rintro _ _ ⟨_, ⟨rfl, rfl⟩, rfl⟩
    refine J.app <| Ef 2 E2 (EF.call rfl ce10 rfl Takes.nil (fun F' hle hr => num7_spec F' _)) ?_
    rintro _ _ ⟨_, ⟨rfl, rfl⟩, rfl⟩
    refine J.app <| Qp 3 E2 (Ze E3) <| Mv 4 E3 <| Ym 5 E4 <| Ye 6 E3 (EF.call rfl ce16 rfl Takes.nil (fun F' hle hr => len_nil F')) ?_
    rintro _ _ ⟨_, ⟨rfl, rfl⟩, rfl⟩
    refine J.app <| Yp 7 E3 (Ze E3) <| Pt 8 E4 <| Mv 9 E3 <| Ym 10 E4 <| Ye 11 E3 (EF.call rfl ce17 rfl Takes.nil (fun F' hle hr => flush_nil F')) ?_
    rintro _ _ ⟨_, ⟨rfl, rfl⟩, rfl⟩
    refine J.app <| Yp 12 E3 (QP.len rfl rfl rfl Tryz.underlying27) <| Yp 13 E3 (Ze E3) <| J.decT (rfl) ?_
    refine Pt 14 E4 <| Mv 15 E3 <| Ye 16 E3 (EF.call rfl ce6 rfl Takes.nil (fun F' hle hr => live7_spec F')) ?_
    rintro _ _ ⟨_, ⟨rfl, rfl⟩, rfl⟩
    exact J.app <| Pt 17 E4 <| Sg 18 E3 <| Zl hk17 <| Run.ret <| J.ends (res_tmp rfl rfl) Takes.nil ⟨rfl, rfl⟩
   ·refine Mv 4 E3 <| Sk 5 E3 <| Sk 6 E3 <| Pf 7 E4 <| Zl hk15 <| Zf <| Run.exit rfl <| hk11 _ _ <| Zs fun _ hk18 => Sg 0 E3 <| Zl hk18 <| Zs fun _ hk19 => Mv 0 E3 <| Ef 1 E2 (EF.call rfl ce15 rfl Takes.nil (fun F' hle hr => addb_nil F')) ?_
    rintro _ _ ⟨_, ⟨rfl, rfl⟩, rfl⟩
    refine J.app <| Ef 2 E2 (EF.call rfl ce10 rfl Takes.nil (fun F' hle hr => num7_spec F' _)) ?_
    rintro _ _ ⟨_, ⟨rfl, rfl⟩, rfl⟩
    refine J.app <| Qp 3 E2 (Ze E3) <| Mv 4 E3 <| Ym 5 E4 <| Ye 6 E3 (EF.call rfl ce16 rfl Takes.nil (fun F' hle hr => len_nil F')) ?_
    rintro _ _ ⟨_, ⟨rfl, rfl⟩, rfl⟩
    refine J.app <| Yp 7 E3 (Ze E3) <| Pt 8 E4 <| Mv 9 E3 <| Ym 10 E4 <| Ye 11 E3 (EF.call rfl ce17 rfl Takes.nil (fun F' hle hr => flush_nil F')) ?_
    rintro _ _ ⟨_, ⟨rfl, rfl⟩, rfl⟩
    refine J.app <| Yp 12 E3 (QP.len rfl rfl rfl Tryz.underlying27) <| Yp 13 E3 (Ze E3) <| J.decT (rfl) ?_
    refine Pt 14 E4 <| Mv 15 E3 <| Ye 16 E3 (EF.call rfl ce6 rfl Takes.nil (fun F' hle hr => live7_spec F')) ?_
    rintro _ _ ⟨_, ⟨rfl, rfl⟩, rfl⟩
    exact J.app <| Pt 17 E4 <| Sg 18 E3 <| Zl hk19 <| Run.ret <| J.ends (res_tmp rfl rfl) Takes.nil ⟨rfl, rfl⟩

set_option maxHeartbeats 1000000 in
theorem law_buffers_ok (F : Fr) (src : Bs 16) {mtu : Int} (hm : ¬ (mtu < 64 ∨ mtu > 65539)) {ls : List TlsX} {a2 : Option Addr} {c2 : Nat} (ha : ArgSl F a2 1 tlsE ls) (hls : ∀ y ∈ ls, TlsIn F y) (hnn : ls.length ≤ 9223372036854775807) {fs : List Bool} {a3 : Option Addr} {c3 : Nat} (hf : ArgSl F a3 1 boE fs) (hfn : fs.length ≤ 9223372036854775807)  : Spec Tryz.prog 4 #[.agg (Bs.enc src).toArray, .int .i64 mtu, .slice a2 ls.length c2, .slice a3 fs.length c3] [] F (fun v S => v = .bool true ∧ S = []) := by
 have hPE : ∀ ts : List TlvX, packErr src mtu ts = addErr src mtu ts := fun ts => by unfold packErr; rw [if_neg hm]
 have hP : packErr src mtu [] = 0 := hPE []
 refine Spec.intro (N := 143) (args := [.agg (Bs.enc src).toArray, .int .i64 mtu, .slice a2 ls.length c2, .slice a3 fs.length c3]) Tryz.func4 rfl rfl (by simp) ?_
 refine Zs fun _ hk1 => Ef 0 E2 (EF.boxA rfl rfl) ?_
 rintro _ _ ⟨b4, rfl, rfl⟩
 refine Sg 1 E3 <| Zl hk1 <| Run.seq fun _ hk2 => Zs fun _ hk3 => Mv 0 E3 <| Qp 1 E2 (QP.len rfl rfl rfl Tryz.underlying49) <| Qp 2 E2 (QP.gtr rfl rfl rfl) <| J.caseD (fun c22 => ?_) (fun c22 => ?_)
 ·refine Mv 3 E3 <| Sk 4 E3 <| Sk 5 E3 <| Sk 6 E3 <| Sk 7 E3 <| Sk 8 E3 <| Pt 9 E4 <| Zl hk3 <| Zt <| Zs fun _ hk4 => Ef 0 E2 (EF.call rfl ce6 rfl Takes.nil (fun F' hle hr => live7_spec F')) ?_
  rintro _ _ ⟨_, ⟨rfl, rfl⟩, rfl⟩
  exact J.app <| Sg 1 E3 <| Zl hk4 <| Run.ret <| J.ends (res_tmp rfl rfl) Takes.nil ⟨rfl, rfl⟩
 ·refine Mv 3 E3 <| Ym 4 E4 <| Yp 5 E3 (QP.len rfl rfl rfl Tryz.underlying50) <| Ym 6 E4 <| Yp 7 E3 (QP.len rfl rfl rfl Tryz.underlying49) <| Yp 8 E3 (Zb E3) <| J.caseD (fun c28 => ?_) (fun c28 => ?_)
  ·refine Pf 9 E4 <| Zl hk3 <| Zt <| Zs fun _ hk5 => Ef 0 E2 (EF.call rfl ce6 rfl Takes.nil (fun F' hle hr => live7_spec F')) ?_
   rintro _ _ ⟨_, ⟨rfl, rfl⟩, rfl⟩
   exact J.app <| Sg 1 E3 <| Zl hk5 <| Run.ret <| J.ends (res_tmp rfl rfl) Takes.nil ⟨rfl, rfl⟩
  ·refine Pf 9 E4 <| Zl hk3 <| Zf <| Run.skip <| hk2 _ _ <| Run.seq fun _ hk6 => Run.region ?_
   have hl200 : ls.length ≤ 200 := by have h9 : ¬ (ls.length : Int) > 200 := c22; omega
   have hlf : ls.length ≤ fs.length := by have h9 : ¬ (fs.length : Int) < (ls.length : Int) := c28; omega
   refine Qq 0 E2 (Z0 E2 g23 (Bs.sub _)) ?_
   refine Mv 1 E3 <| Ef 2 E2 (EF.call rfl ce14 rfl Takes.nil (fun F' hle hr => new_ok F' src hm)) ?_
   rintro _ _ ⟨_, ⟨b0, rfl, rfl⟩, rfl⟩
   refine J.app <| Mv 3 E3 <| Qp 4 E2 (Zx E3) <| Qp 5 E2 (Zx E3) <| Sg 6 E3 <| Sg 7 E3 <| Zl hk6 <| Zs fun _ hk7 => Qq 0 E2 (Z0 E2 g23 (Bs.sub _)) ?_
   refine Mv 1 E3 <| Ef 2 E2 (EF.call rfl ce8 rfl Takes.nil (fun F' hle hr => rpack_spec F' src (mtu := mtu) (ts := []) (a := none) (c := 0) (fun h0 => absurd h0 (by simp)) (fun x hx => by cases hx) (fun x hx => by cases hx) (fun x hx => by cases hx) (by simp) (fun x hx => by cases hx))) ?_
   rintro _ _ ⟨_, ⟨ps9, pa9, pc9, rfl, hps9, rfl⟩, rfl⟩
   refine J.app <| Mv 3 E3 <| Qp 4 E2 (Zx E3) <| Qp 5 E2 (Zx E3) <| Sg 6 E3 <| Sg 7 E3 <| Zl hk7 <| Run.seq fun _ hk8 => Zs fun _ hk9 => Mv 0 E3 <| Ef 1 E2 (EF.call rfl ce10 rfl Takes.nil (fun F' hle hr => num7_spec F' _)) ?_
   rintro _ _ ⟨_, ⟨rfl, rfl⟩, rfl⟩
   refine J.app <| Mv 2 E3 <| Qp 3 E2 (Zq E3) <| J.decF (by rw [hP]; decide) ?_
   refine Mv 4 E3 <| Ym 5 E4 <| Yp 6 E3 (QP.ptr_eq_nil rfl rfl rfl Tryz.underlying51) <| Ym 7 E4 <| Yp 8 E3 (Zq E3) <| J.decF (by rw [hP]; decide) ?_
   refine Yp 9 E3 (QP.neqB rfl rfl rfl Tryz.underlying4) <| J.boolF (rfl) ?_
   refine Pf 10 E4 <| Zl hk9 <| Zf <| Run.skip <| hk8 _ _ <| Zs fun _ hk10 => Sg 0 E3 <| Zl hk10 <| Run.seq fun _ hk11 => Zs fun _ hk12 => J.addSl 45 68 tlvE ?_
   refine J.addTlvs ?_
   refine J.addSl 45 68 tlvE ?_
   refine Sg 0 E3 <| Zl hk12 <| Run.block <| Run.loop6 (fun (i : Nat) (us : List TlvX) (vw : Value) (t1 : List TlvX) (la : Option Addr) (lc : Nat) => i ≤ ls.length ∧ t1.map tlvM = us.map tlvM ∧ us.length ≤ 200 * i ∧ GoodL F src mtu us) (fun i us vw t1 la lc => .cons 1 (.int .i64 mtu) (.cons 2 (.slice a2 ls.length c2) (.cons 3 (.slice a3 fs.length c3) (.cons 4 (fp b4) (.cons 9 (.pointer (some ⟨b0, 0, none⟩)) (.cons 13 (vw) (.cons 14 (.int .i64 i) (.nil)))))))) (fun i us vw t1 la lc => [blk b4 (Bs.enc src) 23, blk b0 (PackBuffer.enc ⟨src, mtu, ⟨la, t1.length, lc⟩⟩) 84, slA 45 68 tlvE (.slice la t1.length lc) t1, rowsT t1, slA 45 68 tlvE vw us]) (fun i us vw t1 la lc => ls.length - i) (0) ([]) (.slice none 0 0) ([]) (none) (0) (⟨Nat.zero_le _, rfl, Nat.le_refl _, fun x hx => by cases hx⟩) ?_ ?_
   ·exact fun _ j => J.envJ (J.keep Tk5 j) ⟨rfl, rfl, rfl, rfl, rfl, rfl, rfl, trivial⟩
   rintro i us vw t1 la lc ⟨hile, ht1, hul, hgo⟩ kl13 hl13
   refine Run.seq fun _ hk14 => Zs fun _ hk15 => Mv 0 E3 <| Mv 1 E3 <| Qp 2 E2 (QP.len rfl rfl rfl Tryz.underlying49) <| Qp 3 E2 (Zb E3) <| J.caseD (fun c57 => ?_) (fun c57 => ?_)
   ·refine Mv 4 E3 <| Ym 5 E4 <| Yp 6 E3 (QP.ptr_ne_nil rfl rfl rfl Tryz.underlying51) <| Pt 7 E4 <| Zl hk15 <| Zt <| Run.skip <| hk14 _ _ <| Run.seq fun _ hk16 => Run.block <| Run.seq fun _ hk17 => Run.seq fun _ hk18 => Run.region ?_
    obtain ⟨y, hiy⟩ : ∃ y, ls[i]? = some y := ⟨_, List.getElem?_eq_getElem (by omega)⟩
    obtain ⟨q1, o1, rfl, hs1⟩ := ha.get (by omega)
    have hyy := hls y (List.mem_of_getElem? hiy)
    obtain ⟨hya, hyi, hyw, hyr, hyn⟩ := hls y (List.mem_of_getElem? hiy)
    have ht1l : t1.length = us.length := by have h9 := congrArg List.length ht1; simpa using h9
    refine Mv 0 E3 <| Mv 1 E3 <| Qp 2 E2 (QP.indexAddr rfl rfl rfl Tryz.underlying49 z24 Og Og) <| Qq 3 E2 (QR.loadSl1 (ev := fun y : TlsX => Value.slice y.a y.l.length y.c) rfl rfl g24 (hs1 _) hiy) ?_
    refine Ef 4 E2 (EF.call rfl ce5 rfl Takes.nil (fun F' hle hr => huge_spec F' (hya.mono hle) hyn)) ?_
    rintro _ _ ⟨_, ⟨bh, rfl, hbh, rfl⟩, rfl⟩
    refine J.app <| J.caseB (fun c68 => ?_) (fun c68 => ?_)
    ·refine Zl hk18 <| Zt <| Zs fun _ hk19 => Ef 0 E2 (EF.call rfl ce6 rfl Takes.nil (fun F' hle hr => live7_spec F')) ?_
     rintro _ _ ⟨_, ⟨rfl, rfl⟩, rfl⟩
     exact J.app <| Sg 1 E3 <| Zl hk19 <| Run.ret <| J.ends (res_tmp rfl rfl) Takes.nil ⟨rfl, rfl⟩
    ·refine Zl hk18 <| Zf <| Run.skip <| hk17 _ _ <| Run.seq fun _ hk20 => Run.regionM (M := [0, 0, 0, 0, 12, 28, 63, 127, 255, 255, 511, 2047]) (q := 959) (r := 33) mixedT Kr ?_
     obtain ⟨hbl, hbs⟩ := hbh c68
     refine Dr 0 E2 (Z0 E2 g23 (Bs.sub _)) ?_
     refine Dp 1 E2 (Zm E2) <| Dp 2 E2 (Zm E2) <| Dp 3 E2 (Zm E2) <| Dp 4 E2 (QP.indexAddr rfl rfl rfl Tryz.underlying49 z24 Og Og) <| Dr 5 E2 (QR.loadSl1 (ev := fun y : TlsX => Value.slice y.a y.l.length y.c) rfl rfl g24 (hs1 _) hiy) ?_
     refine De 6 <| Om [] rfl rfl (EF.call rfl ce8 rfl Takes.nil (fun F' hle hr => rpack_spec F' src (mtu := mtu) (ts := y.l) (hya.mono hle) (fun x hx => TlvIn.mono (hyi x hx) hle) hyw hyr (by omega) (fun x hx => by have := hbs x hx; omega))) ?_
     rintro _ _ ⟨_, ⟨ps0, pa0, pc0, rfl, hps0, rfl⟩, rfl⟩
     refine ⟨fun _ h => (by cases h), ?_⟩
     refine J.app <| Dp 7 E2 (Zm E2) <| Dp 8 E2 (Zx E3) <| Dp 9 E2 (Zx E3) <| De 10 <| Om [] rfl rfl ((Zg E2).eff) ?_
     rintro _ _ ⟨rfl, rfl⟩
     refine ⟨fun _ h => (by cases h), ?_⟩
     refine De 11 <| Om [] rfl rfl ((Zg E2).eff) ?_
     rintro _ _ ⟨rfl, rfl⟩
     refine ⟨fun _ h => (by cases h), ?_⟩
     refine Dn <| hk20 _ _ <| Run.seq fun _ hk21 => Zs fun _ hk22 => Mv 0 E3 <| Ef 1 E2 (EF.buildSlice0 (enc := tlvE) rfl Tryz.underlying24 z45 zero45 (by simp [Value.cells, Tlv.enc_len]) (by decide)) ?_
     rintro _ _ ⟨b81, rfl, rfl⟩
     refine Mv 2 E3 <| Mv 3 E3 <| Qp 4 E2 (QP.indexAddr rfl rfl rfl Tryz.underlying49 z24 Og Og) <| Qq 5 E2 (QR.loadSl1 (ev := fun y : TlsX => Value.slice y.a y.l.length y.c) rfl rfl g24 (hs1 _) hiy) ?_
     refine Ef 6 E2 (EF.appendArg (xs := []) (ys := y.l) (enc := tlvE) el45 tlvE_len (fun _ => Tlv.enc_cell _) rfl rfl rfl Tryz.underlying24 Tryz.underlying24 rfl rfl Rc hya (by simp; omega)) ?_
     rintro sl86 _ rfl
     rw [List.nil_append]
     refine Sq.slCase (v := sl86) (xs := y.l) Rc (fun a86 c86 hv86 hh86 => ?_)
     subst hv86
     refine Ef 7 E2 (EF.call rfl ce15 rfl Tk4 (fun F' hle hr => Spec.lendSl (e := 45) (z := 68) (enc := tlvE) (xs := y.l) tlvE_len (fun F2 hle2 hb2 => addb_spec F2 hb2 (fun x hx => TlvIn.mono (hyi x hx) (hle.trans hle2)) hyw hyr (by omega) (src := src) (mtu := mtu) (la := la) (lc := lc) (ts0 := t1) (by omega) (by omega) (by omega)))) ?_
     rintro _ _ ⟨_, ⟨_, ⟨t2, la2, lc2, rfl, hts2, rfl⟩, rfl⟩, rfl⟩
     refine J.app <| Ef 8 E2 (EF.call rfl ce10 rfl Takes.nil (fun F' hle hr => num7_spec F' _)) ?_
     rintro _ _ ⟨_, ⟨rfl, rfl⟩, rfl⟩
     refine J.app <| Mv 9 E3 <| Qp 10 E2 (Zq E3) <| J.decF (by rw [hPE]; simp) ?_
     refine Zl hk22 <| Zf <| Run.skip <| hk21 _ _ <| Run.cut2 (fun (us2 : List TlvX) (vw2 : Value) => t2.map tlvM = us2.map tlvM ∧ us2.length ≤ 200 * (i + 1) ∧ GoodL F src mtu us2) (fun us2 vw2 => .cons 1 (.int .i64 mtu) (.cons 2 (.slice (some ⟨q1, o1, none⟩) ls.length c2) (.cons 3 (.slice a3 fs.length c3) (.cons 4 (fp b4) (.cons 9 (.pointer (some ⟨b0, 0, none⟩)) (.cons 13 (vw2) (.cons 14 (.int .i64 i) (.nil)))))))) (fun us2 vw2 => [blk b4 (Bs.enc src) 23, blk b0 (PackBuffer.enc ⟨src, mtu, ⟨la2, t2.length, lc2⟩⟩) 84, slA 45 68 tlvE (.slice la2 t2.length lc2) t2, rowsT t2, slA 45 68 tlvE vw2 us2]) ?_ ?_
     ·rintro us2 vw2 ⟨ht2, hu2, hg2⟩
      refine Run.seq fun _ hk24 => Zs fun _ hk25 => Sq.slCase (v := vw2) (xs := us2) Rc (fun aw cw hvw hhw => ?_)
      subst hvw
      have ht2l : t2.length = us2.length := by have h9 := congrArg List.length ht2; simpa using h9
      refine Mv 0 E3 <| Ef 1 E2 (EF.call rfl ce16 rfl Tk1 (fun F' hle hr => len_spec F' (n := t2.length))) ?_
      rintro _ _ ⟨_, ⟨rfl, rfl⟩, rfl⟩
      refine J.app <| Mv 2 E3 <| Qp 3 E2 (QP.len rfl rfl rfl Tryz.underlying24) <| Qp 4 E2 (Zq E3) <| J.decF (by omega) ?_
      refine Zl hk25 <| Zf <| Run.skip <| hk24 _ _ <| Run.seq fun _ hk26 => Run.region ?_
      obtain ⟨fb, hif⟩ : ∃ b, fs[i]? = some b := ⟨_, List.getElem?_eq_getElem (by omega)⟩
      obtain ⟨q3, o3, rfl, hs3⟩ := hf.get (by omega)
      refine Mv 0 E3 <| Mv 1 E3 <| Qp 2 E2 (QP.indexAddr rfl rfl rfl Tryz.underlying50 z4 Og Og) <| Qq 3 E2 (QR.loadSl1 (ev := fun b : Bool => Value.bool b) rfl rfl g4 (hs3 _) hif) ?_
      refine J.caseB (fun c107 => ?_) (fun c107 => ?_)
      ·refine Zl hk26 <| Zt <| Zs fun _ hk27 => Qq 0 E2 (Z0 E2 g23 (Bs.sub _)) ?_
       refine Mv 1 E3 <| Mv 2 E3 <| Ef 3 E2 (EF.call rfl ce8 rfl Tk1 (fun F' hle hr => Spec.lendSl (e := 45) (z := 68) (enc := tlvE) (xs := us2) tlvE_len (fun F2 hle2 hb2 => rpack_spec F2 src (mtu := mtu) hb2 (fun x hx => TlvIn.mono (hg2 x hx).1 (hle.trans hle2)) (fun x hx => (hg2 x hx).2.1) (fun x hx => (hg2 x hx).2.2.1) (by omega) (fun x hx => by have := (hg2 x hx).2.2.2.1; omega)))) ?_
       rintro _ _ ⟨_, ⟨_, ⟨ps, pa, pc, rfl, hps, rfl⟩, rfl⟩, rfl⟩
       refine J.app <| Mv 4 E3 <| Qp 5 E2 (Zx E3) <| Qp 6 E2 (Zx E3) <| Sg 7 E3 <| Sg 8 E3 <| Zl hk27 <| Run.seq fun _ hk28 => Zs fun _ hk29 => Mv 0 E3 <| Ef 1 E2 (EF.call rfl ce17 rfl Tk3 (fun F' hle hr => flush_spec F' (src := src) (mtu := mtu) (ts := t2) (tl_fit ht2 (fun x hx => (hg2 x hx).2.2.2.2)) (tl_wf ht2 (fun x hx => (hg2 x hx).2.1)) (tl_r ht2 (fun x hx => (hg2 x hx).2.2.1)) (by omega) (by omega) (by omega))) ?_
       rintro _ _ ⟨_, ⟨os, oa, oc, la3, lc3, rfl, hos, rfl⟩, rfl⟩
       refine J.app <| Mv 2 E3 <| Ef 3 E2 (EF.call rfl ce9 rfl Tk4 (fun F' hle hr => rsame7_lent F' (os := os) (ps := ps) (oa := oa) (pa := pa) (oc := oc) (pc := pc) (by have h9 := congrArg List.length hps; rw [List.length_map] at h9; have h8 := packF_few src mtu us2; have h7 := congrArg List.length (hos.trans ((congrArg (flushF src mtu) ht2).trans (packF_good hm (fun x hx => (hg2 x hx).2.2.2.2)).symm)); rw [List.length_map] at h7; omega))) ?_
       rintro _ _ ⟨_, ⟨rfl, rfl⟩, rfl⟩
       refine J.app <| J.boolT (packs_same (l := flushF src mtu (us2.map tlvM)) (by rw [hos, ht2]) (by rw [hps]; exact packF_good hm (fun x hx => (hg2 x hx).2.2.2.2))) ?_
       refine Qp 4 E2 (Zu E2) <| Mv 5 E3 <| Ym 6 E4 <| Ye 7 E3 (EF.call rfl ce16 rfl Tk1 (fun F' hle hr => len_spec F' (n := 0))) ?_
       rintro _ _ ⟨_, ⟨rfl, rfl⟩, rfl⟩
       refine J.app <| Yp 8 E3 (Zq E3) <| J.decF (by simp) ?_
       refine Pf 9 E4 <| Zl hk29 <| Zf <| Run.skip <| hk28 _ _ <| Run.region <| Sg 0 E3 <| Zl hk16 <| Run.region <| Mv 0 E3 <| Qp 1 E2 (QP.add64 rfl rfl rfl Og Og) <| Sg 2 E3 <| Sq.nil <| J.addTlvs ?_
       refine J.addSl 45 68 tlvE ?_
       exact J.envJ (J.keep Tk5 (hl13 (i + 1) ([]) (.slice none 0 0) ([]) (la3) (lc3) (⟨by omega, rfl, Nat.zero_le _, fun x hx => by cases hx⟩) (by omega))) ⟨rfl, rfl, rfl, rfl, rfl, rfl, rfl, trivial⟩
      ·refine Zl hk26 <| Zf <| Run.skip <| hk16 _ _ <| Run.region <| Mv 0 E3 <| Qp 1 E2 (QP.add64 rfl rfl rfl Og Og) <| Sg 2 E3 <| Sq.nil ?_
       
       exact J.envJ (J.keep Tk5 (hl13 (i + 1) (us2) (.slice aw us2.length cw) (t2) (la2) (lc2) (⟨by omega, ht2, hu2, hg2⟩) (by omega))) ⟨rfl, rfl, rfl, rfl, rfl, rfl, rfl, trivial⟩
     ·intro ku23 hu23
      refine Zs fun _ hk30 => Mv 0 E3 <| Qp 1 E2 (Ze E3) <| J.caseD (fun c92 => ?_) (fun c92 => ?_)
      ·refine Zl hk30 <| Zt <| Run.region <| Mv 0 E3 <| Mv 1 E3 <| Mv 2 E3 <| Qp 3 E2 (QP.indexAddr rfl rfl rfl Tryz.underlying49 z24 Og Og) <| Qq 4 E2 (QR.loadSl1 (ev := fun y : TlsX => Value.slice y.a y.l.length y.c) rfl rfl g24 (hs1 _) hiy) ?_
       refine Ef 5 E2 (EF.appendArg (xs := us) (ys := y.l) (enc := tlvE) el45 tlvE_len (fun _ => Tlv.enc_cell _) rfl rfl rfl Tryz.underlying24 Tryz.underlying24 rfl rfl Rc hya (by omega)) ?_
       rintro sl98 _ rfl
       exact Sg 6 E3 <| Sq.nil <| J.envJ (J.keep Tk5 (hu23 (us ++ y.l) (sl98) (⟨by rw [hts2, if_pos (by rw [← hPE]; exact c92), List.map_append, List.map_append, ht1], by rw [List.length_append]; omega, hgo.app hyy hbs (by rw [← hPE]; exact c92)⟩))) ⟨rfl, rfl, rfl, rfl, rfl, rfl, rfl, trivial⟩
      ·exact Zl hk30 <| Zf <| Run.skip <| J.envJ (J.keep Tk5 (hu23 (us) (vw) (⟨by rw [hts2, if_neg (by rw [← hPE]; exact c92), ht1], by omega, hgo⟩))) ⟨rfl, rfl, rfl, rfl, rfl, rfl, rfl, trivial⟩
   ·refine Mv 4 E3 <| Sk 5 E3 <| Sk 6 E3 <| Pf 7 E4 <| Zl hk15 <| Zf <| Run.exit rfl <| hk11 _ _ <| Zs fun _ hk31 => Sg 0 E3 <| Zl hk31 <| Zs fun _ hk32 => Mv 0 E3 <| Ef 1 E2 (EF.call rfl ce15 rfl Takes.nil (fun F' hle hr => addb_nil F')) ?_
    rintro _ _ ⟨_, ⟨rfl, rfl⟩, rfl⟩
    refine J.app <| Ef 2 E2 (EF.call rfl ce10 rfl Takes.nil (fun F' hle hr => num7_spec F' _)) ?_
    rintro _ _ ⟨_, ⟨rfl, rfl⟩, rfl⟩
    refine J.app <| Qp 3 E2 (Ze E3) <| Mv 4 E3 <| Ym 5 E4 <| Ye 6 E3 (EF.call rfl ce16 rfl Takes.nil (fun F' hle hr => len_nil F')) ?_
    rintro _ _ ⟨_, ⟨rfl, rfl⟩, rfl⟩
    refine J.app <| Yp 7 E3 (Ze E3) <| Pt 8 E4 <| Mv 9 E3 <| Ym 10 E4 <| Ye 11 E3 (EF.call rfl ce17 rfl Takes.nil (fun F' hle hr => flush_nil F')) ?_
    rintro _ _ ⟨_, ⟨rfl, rfl⟩, rfl⟩
    refine J.app <| Yp 12 E3 (QP.len rfl rfl rfl Tryz.underlying27) <| Yp 13 E3 (Ze E3) <| J.decT (rfl) ?_
    refine Pt 14 E4 <| Mv 15 E3 <| Ye 16 E3 (EF.call rfl ce6 rfl Takes.nil (fun F' hle hr => live7_spec F')) ?_
    rintro _ _ ⟨_, ⟨rfl, rfl⟩, rfl⟩
    exact J.app <| Pt 17 E4 <| Sg 18 E3 <| Zl hk32 <| Run.ret <| J.ends (res_tmp rfl rfl) Takes.nil ⟨rfl, rfl⟩

theorem law_buffers (F : Fr) (src : Bs 16) (mtu : Int) {ls : List TlsX} {a2 : Option Addr} {c2 : Nat} (ha : ArgSl F a2 1 tlsE ls) (hls : ∀ y ∈ ls, TlsIn F y) (hnn : ls.length ≤ 9223372036854775807) {fs : List Bool} {a3 : Option Addr} {c3 : Nat} (hf : ArgSl F a3 1 boE fs) (hfn : fs.length ≤ 9223372036854775807)  : Spec Tryz.prog 4 #[.agg (Bs.enc src).toArray, .int .i64 mtu, .slice a2 ls.length c2, .slice a3 fs.length c3] [] F (fun v S => v = .bool true ∧ S = []) := by
  by_cases hm : mtu < 64 ∨ mtu > 65539
  · exact law_buffers_bad F src hm ha hls hnn hf hfn
  · exact law_buffers_ok F src hm ha hls hnn hf hfn
end Slb
