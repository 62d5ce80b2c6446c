/- J75: a part of the proof that a law of this package holds for every input; no condition. -/
import Derived.Test.YtfokodhfjdhdaaaGreatM2
import Derived.Test.YtfokodhfjdhdaaaGreatJ74
namespace Slb
open Go Go.Proofs
set_option maxRecDepth 20000
def lenAt (E : EnX) (k : Bs 16) : Nat := ((alook E k).map fun e => e.2.ts.length).getD 0
def sumT (E : EnX) (todo : TabM) : Nat := (todo.map fun p => lenAt E p.1).sum
/-- How many wait. -/
def waitN (ws : WsX) : Nat := (ws.map fun e => e.2.length).sum
theorem sumT_erase {E : EnX} {todo : TabM} {i : Nat} {p : Bs 16 × Nat} (h : todo[i]? = some p) : sumT E todo = lenAt E p.1 + sumT E (todo.eraseIdx i) := by
 have h1 := ((erase_perm h).map fun p => lenAt E p.1).sum_nat
 unfold sumT
 rw [← h1]
 rfl
theorem ptrs_at {E : EnX} (hnd : (E.map (·.1)).Nodup) {p : Bs 16 × Nat} (hp : p ∈ ptrs E) : ∃ q, alook E p.1 = some (p.2, q) := by
 obtain ⟨e, he, rfl⟩ := List.mem_map.1 hp
 induction E with
 | nil => cases he
 | cons e0 E ih =>
   obtain ⟨k0, v0⟩ := e0
   rw [List.map_cons, List.nodup_cons] at hnd
   rcases List.mem_cons.1 he with rfl | he
   · exact ⟨v0.2, by simp [alook]⟩
   · have hne : ¬ k0 = e.1 := fun h => hnd.1 (by show k0 ∈ E.map (·.1); rw [h]; exact List.mem_map_of_mem (f := fun x : Bs 16 × (Nat × BufX) => x.1) he)
     obtain ⟨q, hq⟩ := ih hnd.2 he (List.mem_map_of_mem (f := fun e : Bs 16 × (Nat × BufX) => (e.1, e.2.1)) he)
     exact ⟨q, by simp only [alook, hne, if_false]; exact hq⟩
theorem lenAt_mem {E : EnX} (hnd : (E.map (·.1)).Nodup) {e : Bs 16 × (Nat × BufX)} (he : e ∈ E) : lenAt E e.1 = e.2.2.ts.length := by
 induction E with
 | nil => cases he
 | cons e0 E ih =>
   obtain ⟨k0, v0⟩ := e0
   rw [List.map_cons, List.nodup_cons] at hnd
   rcases List.mem_cons.1 he with rfl | he
   · simp [lenAt, alook]
   · have hne : ¬ k0 = e.1 := fun h => hnd.1 (by show k0 ∈ E.map (·.1); rw [h]; exact List.mem_map_of_mem (f := fun x : Bs 16 × (Nat × BufX) => x.1) he)
     have := ih hnd.2 he
     simp only [lenAt, alook, hne, if_false] at this ⊢
     exact this
theorem sumT_all {E : EnX} (hnd : (E.map (·.1)).Nodup) : sumT E (ptrs E) = waitN (wsOf E) := by
 unfold sumT waitN wsOf ptrs
 rw [List.map_map, List.map_map]
 refine congrArg List.sum (List.map_congr_left fun e he => ?_)
 show lenAt E e.1 = (e.2.2.ts.map tlvM).length
 rw [lenAt_mem hnd he, List.length_map]

set_option maxHeartbeats 1000000 in
theorem waiting_ok (F : Fr) {b : Nat} {a : Option Addr} {c : Nat} {bs : List Nat} (hS : InS F b a c bs) {i bi : Nat} (hi : bs[i]? = some bi) {x : OneX} {w : Option Nat} {E : EnX} (hnd : (E.map (·.1)).Nodup) (hsum : sumT E (ptrs E) ≤ 1000000000)  : Spec Tryz.prog 24 #[.pointer (some ⟨b, 0, none⟩), .int .i64 (i : Int)] [blk bi (IfaceOne.enc (oneO x w)) 91, mapE w (ptrs E), rowsQ (bufA x.c) E] F (fun v S => v = .int .i64 (sumT E (ptrs E) : Nat) ∧ S = [blk bi (IfaceOne.enc (oneO x w)) 91, mapE w (ptrs E), rowsQ (bufA x.c) E]) := by
 refine Spec.intro (N := 31) (args := [.pointer (some ⟨b, 0, none⟩), .int .i64 (i : Int)]) Tryz.func24 rfl rfl (by simp) ?_
 refine Zs fun _ hk1 => Sg 0 E3 <| Zl hk1 <| Zs fun _ hk2 => Mv 0 E3 <| Mv 1 E3 <| Ef 2 E2 (Zc E2 ce44 TN (fun F' hle hr => get_ok F' (hS.mono hle) hi)) ?_
 rintro _ _ ⟨_, ⟨rfl, rfl⟩, rfl⟩
 refine J.app <| Mv 3 E3 <| Qp 4 E2 (Zx E3) <| Qp 5 E2 (Zx E3) <| Sg 6 E3 <| Sg 7 E3 <| Zl hk2 <| Run.seq fun _ hk3 => Zs fun _ hk4 => Mv 0 E3 <| Qp 1 E2 (Zq E3) <| Zl hk4 <| Zf <| Run.skip <| hk3 _ _ <| Run.seq fun _ hk5 => Zs fun _ hk6 => Mv 0 E3 <| Qp 1 E2 (Zn E2) <| Fa 2 E3 f91_3 <| Qq 3 E2 (Z1 E2 g89 (IfaceOne.sub_wait _)) ?_
 refine Ef 4 E2 (EF.rangeW rfl rfl Tryz.underlying89 Rc) ?_
 rintro _ _ ⟨it21, rfl, rfl⟩
 refine Zl hk6 <| Run.block <| Run.loop3 (fun (n : Nat) (todo : TabM) (cur : Option (Bs 16 × Nat)) => n + sumT E todo = sumT E (ptrs E) ∧ ∀ p ∈ todo, p ∈ ptrs E) (fun n todo cur => .cons 4 (.int .i64 n) (.cons 21 (.pointer (some ⟨it21, 0, none⟩)) (.nil))) (fun n todo cur => [blk bi (IfaceOne.enc (oneO x w)) 91, rangeW akE pv w it21 (ptrs E) todo cur, rowsQ (bufA x.c) E]) (fun n todo cur => todo.length) (0) (ptrs E) (none) (⟨Nat.zero_add _, fun p h => h⟩) ?_ ?_
 ·exact fun _ j => J.envJ (J.keep Tk3 j) ⟨rfl, rfl, trivial⟩
 rintro n todo cur ⟨hsT, hall⟩ kl7 hl7
 refine Zs fun _ hk8 => Ef 0 E2 (EF.nextW rfl rfl Rc) ?_
 rintro _ _ (⟨hn22, rfl, rfl⟩ | ⟨ix, px, hn22, rfl, rfl⟩)
 ·subst hn22
  refine Qp 1 E2 (Zx E3) <| Zl hk8 <| Run.seq fun _ hk9 => Zf <| Run.exit rfl <| hk5 _ _ <| Zs fun _ hk10 => Mv 0 E3 <| Sg 1 E3 <| Zl hk10 <| Run.ret <| J.rangeEndW Rc ?_
  have hn0 : n = sumT E (ptrs E) := by rw [← hsT]; rfl
  rw [hn0]
  exact J.ends (res_tmp rfl rfl) Tk3 ⟨rfl, rfl⟩
 ·have hmem : px ∈ ptrs E := hall px (List.mem_of_getElem? hn22)
  obtain ⟨q, hlq⟩ := ptrs_at hnd hmem
  have hsm := sumT_erase (E := E) hn22
  rw [show lenAt E px.1 = q.ts.length by unfold lenAt; rw [hlq]; rfl] at hsm
  refine Qp 1 E2 (Zx E3) <| Zl hk8 <| Run.seq fun _ hk11 => Zt <| Run.skip <| hk11 _ _ <| Run.block <| Zs fun _ hk12 => Qq 0 E2 (QR.entryW rfl rfl (w := w) (M := (ptrs E)) (todo := _) (ek := akE) (ev := pv) Rc) ?_
  refine Qp 1 E2 (Zx E3) <| Sg 2 E3 <| Zl hk12 <| Run.region <| J.openE (T := fun _ : Unit => [bufA x.c px.2 q, rowsQ (bufA x.c) (adel E px.1)]) Rc (fun p g => ⟨(), rowsQ_out hlq g⟩) (fun _ => ?_)
  refine J.app <| J.openE (T := fun _ : Unit => bufL x.c px.2 q) Rc (fun p g => ⟨(), g⟩) (fun _ => ?_)
  refine J.app <| Mv 0 E3 <| Mv 1 E3 <| Ef 2 E2 (Zc E2 ce45 Tk1 (fun F' hle hr => len_spec F' (n := q.ts.length))) ?_
  rintro _ _ ⟨_, ⟨rfl, rfl⟩, rfl⟩
  refine J.app <| Qp 3 E2 (QP.add64 rfl rfl rfl Og Og) <| Sg 4 E3 <| Sq.nil <| J.close (A := bufA x.c px.2 q) (m := bufL x.c px.2 q) Tk3 (fun _ g => g) ?_
  refine J.close (A := rowsQ (bufA x.c) (aset E px.1 (px.2, q))) (m := [bufA x.c px.2 q, rowsQ (bufA x.c) (adel E px.1)]) Tk2 (fun _ g => rowsQ_in hlq g) ?_
  rw [aset_same hlq]
  exact J.envJ (J.keep Tk3 (hl7 (n + q.ts.length) (todo.eraseIdx ix) (some px) (⟨by omega, fun p hp => hall p (List.mem_of_mem_eraseIdx hp)⟩) (by have h1 := (erase_perm hn22).length_eq; simp at h1; omega))) ⟨rfl, rfl, trivial⟩

end Slb
