/- R70: a part of the proof that a law of this package holds for every input; no condition. -/
import Derived.Test.YtmolpkkkndopcaaGreatM2
import Derived.Test.YtmolpkkkndopcaaGreatR69
namespace Slb
open Go Go.Proofs
set_option maxRecDepth 20000
theorem QP.neqStr {P : Program} {N : Nat} {G : Env} {S : List HProp} {F : Fr} {o : Oper} {t t' : TypeId} {x y : Operand} {a b : List UInt8} (ho : o.op = .binOp .neq t x y t') (hx : opv G x = some (.string ⟨a.toArray⟩)) (hy : opv G y = some (.string ⟨b.toArray⟩)) : QP P N G S F o (.bool (decide (a ≠ b))) := fun ac w s w' => by
  have h : (a == b) = decide (a = b) := by by_cases h : a = b <;> simp [h]
  unfold execOp
  simp [ho, s.eval hx, s.eval hy, eqGuard_at_string, binOp, Op.stringOp, ByteArray.toList_eq, h]
theorem map_take {os ps : List SlX} {i : Nat} {y z : SlX} (h : (os.take i).map (·.l) = (ps.take i).map (·.l)) (hy : os[i]? = some y) (hz : ps[i]? = some z) (he : y.l = z.l) : (os.take (i + 1)).map (·.l) = (ps.take (i + 1)).map (·.l) := by
  rw [take_succ_get hy, take_succ_get hz, List.map_append, List.map_append, h, List.map_cons, List.map_cons, he]
theorem map_at {os ps : List SlX} {i : Nat} {y z : SlX} (h : os.map (·.l) = ps.map (·.l)) (hy : os[i]? = some y) (hz : ps[i]? = some z) : y.l = z.l := by
  have h9 := congrArg (fun q => q[i]?) h
  simp only [List.getElem?_map, hy, hz, Option.map_some] at h9
  exact Option.some.inj h9

theorem rsame7_spec (F : Fr) {os ps : List SlX} {a1 a2 : Option Addr} {c1 c2 : Nat} (ha1 : ArgSl F a1 1 slE os) (hy1 : ∀ y ∈ os, ArgSl F y.a 1 bytE y.l) (ha2 : ArgSl F a2 1 slE ps) (hy2 : ∀ y ∈ ps, ArgSl F y.a 1 bytE y.l) (hn : os.length ≤ 4294967296)  : Spec Tryz.prog 9 #[.slice a1 os.length c1, .slice a2 ps.length c2] [] F (fun v S => v = .bool (decide (os.map (·.l) = ps.map (·.l))) ∧ S = []) := by
 refine Spec.intro (N := 28) (args := [.slice a1 os.length c1, .slice a2 ps.length c2]) Tryz.func9 rfl rfl (by simp) ?_
 refine Zs fun _ hk1 => Sg 0 E3 <| Zl hk1 <| Run.seq fun _ hk2 => Zs fun _ hk3 => Mv 0 E3 <| Qp 1 E2 (QP.len rfl rfl rfl Tryz.underlying27) <| Mv 2 E3 <| Qp 3 E2 (QP.len rfl rfl rfl Tryz.underlying27) <| Qp 4 E2 (Zq E3) <| J.caseD (fun c10 => ?_) (fun c10 => ?_)
 ·exact Zl hk3 <| Zt <| Zs fun _ hk4 => Sg 0 E3 <| Zl hk4 <| Run.ret <| J.ends (res_tmp rfl rfl) Takes.nil ⟨congrArg Value.bool (decide_eq_false (fun h => c10 (by have h9 := congrArg List.length h; simp only [List.length_map] at h9; exact congrArg Nat.cast h9))).symm, rfl⟩
 ·refine Zl hk3 <| Zf <| Run.skip <| hk2 _ _ <| Run.seq fun _ hk5 => Run.seq fun _ hk6 => Run.region ?_
  have hnn : os.length = ps.length := by have h9 : ¬ (os.length : Int) ≠ ps.length := c10; omega
  refine Sg 0 E3 <| Zl hk6 <| Run.block <| Run.loop1 (fun (i : Nat) => i ≤ os.length ∧ (os.take i).map (·.l) = (ps.take i).map (·.l)) (fun i => .cons 0 (.slice a1 os.length c1) (.cons 1 (.slice a2 ps.length c2) (.cons 5 (.int .i64 i) (.nil)))) (fun i => []) (fun i => os.length - i) (0) (⟨Nat.zero_le _, rfl⟩) ?_ ?_
  ·exact fun _ j => J.envJ (J.keep Takes.nil j) ⟨rfl, rfl, rfl, trivial⟩
  rintro i ⟨hile, hmm⟩ kl7 hl7
  refine Run.seq fun _ hk8 => Zs fun _ hk9 => Mv 0 E3 <| Mv 1 E3 <| Qp 2 E2 (QP.len rfl rfl rfl Tryz.underlying27) <| Qp 3 E2 (Zb E3) <| J.caseD (fun c14 => ?_) (fun c14 => ?_)
  ·refine Zl hk9 <| Zt <| Run.skip <| hk8 _ _ <| Run.seq fun _ hk10 => Run.block <| Run.seq fun _ hk11 => Run.regionD (M := [0, 0, 3, 7, 15, 0, 0, 96, 224, 480, 1023]) (q := 2047) (r := 792) Kr ?_
   obtain ⟨y, hi⟩ : ∃ y, os[i]? = some y := ⟨_, List.getElem?_eq_getElem (by omega)⟩
   obtain ⟨q1, o1, rfl, hs1⟩ := ha1.get (by omega)
   obtain ⟨z, hi2⟩ : ∃ y, ps[i]? = some y := ⟨_, List.getElem?_eq_getElem (by omega)⟩
   obtain ⟨q2, o2, rfl, hs2⟩ := ha2.get (by omega)
   refine Dp 0 E2 (Zm E2) <| Dp 1 E2 (Zm E2) <| Dp 2 E2 (QP.indexAddr rfl rfl rfl Tryz.underlying27 z46 Og Og) <| Dr 3 E2 (QR.loadSl1 (ev := fun y : SlX => Value.slice y.a y.n y.c) rfl rfl g46 (hs1 _) hi) ?_
   refine Dr 4 E2 (QR.strSl (xs := y.l) rfl rfl Tryz.underlying46 Tryz.underlying5 Tryz.underlying9 (by rw [y.h]; exact argSl_load (fun _ => rfl) (hy1 y (List.mem_of_getElem? hi))) y.h) ?_
   refine Dp 5 E2 (Zm E2) <| Dp 6 E2 (Zm E2) <| Dp 7 E2 (QP.indexAddr rfl rfl rfl Tryz.underlying27 z46 Og Og) <| Dr 8 E2 (QR.loadSl1 (ev := fun y : SlX => Value.slice y.a y.n y.c) rfl rfl g46 (hs2 _) hi2) ?_
   refine Dr 9 E2 (QR.strSl (xs := z.l) rfl rfl Tryz.underlying46 Tryz.underlying5 Tryz.underlying9 (by rw [z.h]; exact argSl_load (fun _ => rfl) (hy2 z (List.mem_of_getElem? hi2))) z.h) ?_
   refine Dp 10 E2 (QP.neqStr rfl rfl rfl) <| J.caseD (fun c27 => ?_) (fun c27 => ?_)
   ·exact Dn <| hk11 _ _ <| Zt <| Zs fun _ hk12 => Sg 0 E3 <| Zl hk12 <| Run.ret <| J.ends (res_tmp rfl rfl) Takes.nil ⟨congrArg Value.bool (decide_eq_false (fun h => c27 (map_at h hi hi2))).symm, rfl⟩
   ·exact Dn <| hk11 _ _ <| Zf <| Run.skip <| hk10 _ _ <| Run.region <| Mv 0 E3 <| Qp 1 E2 (QP.add64 rfl rfl rfl Og Og) <| Sg 2 E3 <| Sq.nil <| J.envJ (J.keep Takes.nil (hl7 (i + 1) (⟨by omega, map_take hmm hi hi2 (Decidable.of_not_not c27)⟩) (by omega))) ⟨rfl, rfl, rfl, trivial⟩
  ·exact Zl hk9 <| Zf <| Run.exit rfl <| hk5 _ _ <| Zs fun _ hk13 => Sg 0 E3 <| Zl hk13 <| Run.ret <| J.ends (res_tmp rfl rfl) Takes.nil ⟨congrArg Value.bool (decide_eq_true (by rw [List.take_of_length_le (by omega), List.take_of_length_le (by omega)] at hmm; exact hmm)).symm, rfl⟩

theorem rowsS_frame {F : Fr} {os : List SlX} {L : List HProp} {q : PH} (hA : stars L q) (hq : PH.le q F.h) (hm : rowsS os ∈ L) : ∀ y ∈ os, ArgSl F y.a 1 bytE y.l := fun y hy => by
  obtain ⟨p, hp, hpq⟩ := stars_mem hm hA
  obtain ⟨p2, hp2, hpq2⟩ := stars_mem (List.mem_map_of_mem (f := slB) hy) hp
  have hp3 : slA 5 1 bytE (.slice y.a y.l.length y.c) y.l p2 := by have h9 : slB y p2 := hp2; unfold slB at h9; rw [y.h] at h9; exact h9
  exact slA_arg (fun _ => rfl) hp3 ((hpq2.trans hpq).trans hq)
theorem rsame7_lent (F : Fr) {os ps : List SlX} {oa pa : Option Addr} {oc pc : Nat} (hn : os.length ≤ 4294967296) : Spec Tryz.prog 9 #[.slice oa os.length oc, .slice pa ps.length pc] [slA 46 1 slE (.slice oa os.length oc) os, rowsS os, slA 46 1 slE (.slice pa ps.length pc) ps, rowsS ps] F fun v S => v = .bool (decide (os.map (·.l) = ps.map (·.l))) ∧ S = [slA 46 1 slE (.slice oa os.length oc) os, rowsS os, slA 46 1 slE (.slice pa ps.length pc) ps, rowsS ps] := by
  have h := Spec.lendL (P := Tryz.prog) (f := 9) (args := #[.slice oa os.length oc, .slice pa ps.length pc]) (m := []) (F := F) (L := [slA 46 1 slE (.slice oa os.length oc) os, rowsS os, slA 46 1 slE (.slice pa ps.length pc) ps, rowsS ps]) (R := fun v S => v = .bool (decide (os.map (·.l) = ps.map (·.l))) ∧ S = []) (fun F2 q hle hA hq =>
    rsame7_spec F2 (slA_frame (e := 46) (n := os.length) (c := oc) (fun _ => rfl) hA hq (by simp)) (rowsS_frame hA hq (by simp)) (slA_frame (e := 46) (n := ps.length) (c := pc) (fun _ => rfl) hA hq (by simp)) (rowsS_frame hA hq (by simp)) hn)
  rw [List.append_nil] at h
  refine h.mono ?_
  rintro v S ⟨S1, ⟨h1, rfl⟩, rfl⟩
  exact ⟨h1, List.append_nil _⟩
end Slb
