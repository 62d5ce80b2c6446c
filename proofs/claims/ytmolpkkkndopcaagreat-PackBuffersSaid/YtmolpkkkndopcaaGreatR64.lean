/- R64: a part of the proof that a law of this package holds for every input; no condition. -/
import Derived.Test.YtmolpkkkndopcaaGreatM2
import Derived.Test.YtmolpkkkndopcaaGreatR63
namespace Slb
open Go Go.Proofs
set_option maxRecDepth 20000
/-- A source's bytes. -/
def srcX (p : Pair) : List UInt8 := if specB p = true then rawF 128 ([(pxF p.src).2.1] ++ (pxF p.src).2.2) else []

theorem rsource_spec (F : Fr) (p : Pair) (hc : checkB p.src = true)  : Spec Tryz.prog 52 #[.agg (Pair.enc p).toArray] [] F (fun v S => S = [slA 5 1 bytE v (srcX p)]) := by
 refine Spec.intro (N := 22) (args := [.agg (Pair.enc p).toArray]) Tryz.func52 rfl rfl (by simp) ?_
 refine Zs fun _ hk1 => Ef 0 E2 (EF.boxA rfl rfl) ?_
 rintro _ _ ⟨b1, rfl, rfl⟩
 refine Sg 1 E3 <| Zl hk1 <| Run.seq fun _ hk2 => Zs fun _ hk3 => Qq 0 E2 (Z0 E2 g42 (Pair.enc_sub _)) ?_
 refine Ef 1 E2 (EF.call rfl ce85 rfl Takes.nil (fun F' hle hr => rspecific_spec F' p)) ?_
 rintro _ _ ⟨_, ⟨rfl, rfl⟩, rfl⟩
 refine J.app <| J.caseB (fun c7 => ?_) (fun c7 => ?_)
 ·refine Qp 2 E2 (Zu E2) <| Zl hk3 <| Zf <| Run.skip <| hk2 _ _ <| Zs fun _ hk4 => Fa 0 E3 f42_1 <| Qq 1 E2 (Z0 E2 g40 (Pair.sub_src _)) ?_
  refine Ef 2 E2 (EF.call rfl ce51 rfl Takes.nil (fun F' hle hr => rprefix_spec F' (p := p.src) hc)) ?_
  rintro _ _ ⟨_, ⟨v5, rfl, rfl⟩, rfl⟩
  refine J.app <| Mv 3 E3 <| Qp 4 E2 (Zx E3) <| Qp 5 E2 (Zx E3) <| Qp 6 E2 (Zx E3) <| Sg 7 E3 <| Sg 8 E3 <| Sg 9 E3 <| Zl hk4 <| Zs fun _ hk5 => Sq.slCase (v := v5) (xs := (pxF p.src).2.2) Rc (fun a5 c5 hv5 hh5 => ?_)
  subst hv5
  refine Mv 0 E3 <| Ef 1 E2 (EF.buildSliceS rfl Tryz.underlying46 z5 zero5 rfl (by decide) rfl rfl rfl rfl) ?_
  rintro _ _ ⟨b17, rfl, rfl⟩
  refine J.close (A := slA 5 1 bytE (.slice (some ⟨b17, 0, none⟩) 1 1) [(pxF p.src).2.1]) (m := [blk b17 [.int .u8 ((pxF p.src).2.1.toNat : Int)] 5]) Tk1 (fun _ q => slA_blk (xs := [(pxF p.src).2.1]) rfl q) ?_
  refine Mv 2 E3 <| Ef 3 E2 (EF.append (xs := [(pxF p.src).2.1]) (ys := (pxF p.src).2.2) (enc := bytE) el5 (fun _ => rfl) (fun _ => cell_one rfl) rfl rfl rfl Tryz.underlying46 Tryz.underlying46 rfl rfl Rc (RowsAt.ownH (e := 40) (fun _ => rfl) hh5 (by repeat (first | exact List.Mem.head _ | apply List.Mem.tail))) (by have := px_len p.src; simp; omega)) ?_
  rintro sl19 _ rfl
  refine Sq.slCase (v := sl19) (xs := ([(pxF p.src).2.1] ++ (pxF p.src).2.2)) Rc (fun a19 c19 hv19 hh19 => ?_)
  subst hv19
  refine Qp 4 E2 (QP.build (l := Raw.enc ⟨((128 : UInt8).toNat : Int), ⟨a19, ([(pxF p.src).2.1] ++ (pxF p.src).2.2).length, c19⟩⟩) rfl st81 rfl (by exact ⟨rfl, ⟨rfl, trivial⟩⟩) rfl) <| Ef 5 E2 (EF.call rfl ce32 rfl Tk1 (fun F' hle hr => Spec.lendSl (e := 5) (z := 1) (enc := bytE) (xs := ([(pxF p.src).2.1] ++ (pxF p.src).2.2)) (fun _ => rfl) (fun F2 _ hb2 => rjoin_spec F2 128 (by decide) (by have := px_len p.src; simp; omega) hb2))) ?_
  rintro v21 _ ⟨_, ⟨_, rfl, rfl⟩, rfl⟩
  refine J.app <| Sg 6 E3 <| Zl hk5 <| Run.ret ?_
  have hT : srcX p = rawF 128 ([(pxF p.src).2.1] ++ (pxF p.src).2.2) := by unfold srcX; rw [if_pos c7]
  rw [hT]
  exact J.ends (res_tmp rfl rfl) Tk1 rfl
 ·refine Qp 2 E2 (Zu E2) <| Zl hk3 <| Zt <| Zs fun _ hk6 => Sg 0 E3 <| Zl hk6 <| Run.ret <| J.addSl 5 1 bytE ?_
  have hT : srcX p = [] := by unfold srcX; rw [if_neg (by rw [c7]; simp)]
  rw [hT]
  exact J.ends (res_tmp rfl rfl) Tk1 rfl
end Slb
