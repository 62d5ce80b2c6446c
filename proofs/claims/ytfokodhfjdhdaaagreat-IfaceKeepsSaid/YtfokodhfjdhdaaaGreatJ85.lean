/- J85: a part of the proof that a law of this package holds for every input; no condition. -/
import Derived.Test.YtfokodhfjdhdaaaGreatM2
import Derived.Test.YtfokodhfjdhdaaaGreatJ79
namespace Slb
open Go Go.Proofs
set_option maxRecDepth 20000
/-- An act, as it comes in. -/
structure ActX where
 k : Int
 i : Int
 now : Int
 to : Bs 16
 a : Option Addr
 c : Nat
 l : List TlvX
@[reducible] def actS (x : ActX) : Law14Act := ⟨x.k, x.i, x.now, x.to, ⟨x.a, x.l.length, x.c⟩⟩
@[reducible] def actE (x : ActX) : List Value := Law14Act.enc (actS x)
theorem actE_len (x : ActX) : (actE x).length = 20 := Law14Act.enc_len _
structure ActIn (F : Fr) (x : ActX) : Prop where
 sl : ArgSl F x.a 68 tlvE x.l
 tin : ∀ z ∈ x.l, TlvIn F z
 wf : ∀ z ∈ x.l, (tlvS z).WF
 r32 : ∀ z ∈ x.l, ∀ n ∈ z.l, 0 ≤ n ∧ n < 4294967296
 len : x.l.length ≤ 9223372036854775807
 ri : -9223372036854775808 ≤ x.i ∧ x.i ≤ 9223372036854775807
theorem ActIn.mono {F F' : Fr} {x : ActX} (h : ActIn F x) (hle : PH.le F.h F'.h) : ActIn F' x := ⟨h.sl.mono hle, fun z hz => TlvIn.mono (h.tin z hz) hle, h.wf, h.r32, h.len, h.ri⟩
/-- Acts of some size at most. -/
def SmallA (xs : List ActX) : Prop := xs.length ≤ 120 ∧ ∀ x ∈ xs, x.l.length ≤ 120 ∧ ∀ z ∈ x.l, z.l.length ≤ 120
theorem take_at {α : Type} {q : α → Prop} {L : List α} {i : Nat} {x : α} (h : ∀ y ∈ L.take i, q y) (hi : L[i]? = some x) (hx : q x) : ∀ y ∈ L.take (i + 1), q y := fun y hy => by
 rw [take_succ_get hi] at hy
 rcases List.mem_append.1 hy with hy | hy
 · exact h y hy
 · simp at hy; subst hy; exact hx

theorem huge14_spec (F : Fr) {xs : List ActX} {a : Option Addr} {c : Nat} (ha : ArgSl F a 20 actE xs) (hin : ∀ x ∈ xs, ActIn F x) (hnn : xs.length ≤ 9223372036854775807)  : Spec Tryz.prog 6 #[.slice a xs.length c] [] F (fun v S => ∃ b : Bool, v = .bool b ∧ (b = false → SmallA xs) ∧ S = []) := by
 refine Spec.intro (N := 46) (args := [.slice a xs.length c]) Tryz.func6 rfl rfl (by simp) ?_
 refine Zs fun _ hk1 => Sg 0 E3 <| Zl hk1 <| Run.seq fun _ hk2 => Zs fun _ hk3 => Sg 0 E3 <| Zl hk3 <| Run.block <| Run.loop1 (fun (i : Nat) => i ≤ xs.length ∧ i ≤ 121 ∧ ∀ x ∈ xs.take i, x.l.length ≤ 120 ∧ ∀ z ∈ x.l, z.l.length ≤ 120) (fun i => .cons 0 (.slice a xs.length c) (.cons 3 (.int .i64 i) (.nil))) (fun i => []) (fun i => xs.length - i) (0) (⟨Nat.zero_le _, Nat.zero_le _, by simp⟩) ?_ ?_
 ·exact fun _ j => J.envJ (J.keep TN j) ⟨rfl, rfl, trivial⟩
 rintro i ⟨hile, hi9, hsm⟩ kl4 hl4
 refine Run.seq fun _ hk5 => Zs fun _ hk6 => Mv 0 E3 <| Mv 1 E3 <| Qp 2 E2 (QP.len rfl rfl rfl Tryz.underlying23) <| Qp 3 E2 (Zb E3) <| J.caseD (fun c8 => ?_) (fun c8 => ?_)
 ·refine Mv 4 E3 <| Ym 5 E4 <| Yp 6 E3 (QP.leq rfl rfl rfl) <| J.caseD (fun c11 => ?_) (fun c11 => ?_)
  ·refine Pt 7 E4 <| Zl hk6 <| Zt <| Run.skip <| hk5 _ _ <| Run.seq fun _ hk7 => Run.block <| Run.seq fun _ hk8 => Run.seq fun _ hk9 => Run.region ?_
   obtain ⟨x, hi⟩ : ∃ x, xs[i]? = some x := ⟨_, GE (by omega)⟩
   obtain ⟨q1, o1, rfl, hs0⟩ := ha.get (by omega)
   have hxa := hin x (List.mem_of_getElem? hi)
   refine Mv 0 E3 <| Mv 1 E3 <| Qp 2 E2 (QP.indexAddr rfl rfl rfl Tryz.underlying23 z35 Og Og) <| Fa 3 E3 f35_4 <| Qq 4 E2 (QR.loadSlF1 (y := x) (v := .slice x.a x.l.length x.c) rfl rfl g33 actE_len (hs0 _) hi (Law14Act.sub_l _)) ?_
   refine Qp 5 E2 (QP.len rfl rfl rfl Tryz.underlying33) <| Qp 6 E2 (QP.gtr rfl rfl rfl) <| J.caseD (fun c21 => ?_) (fun c21 => ?_)
   ·exact Zl hk9 <| Zt <| Zs fun _ hk10 => Sg 0 E3 <| Zl hk10 <| Run.ret <| Je E2 ⟨true, rfl, fun h => (by cases h), rfl⟩
   ·refine Zl hk9 <| Zf <| Run.skip <| hk8 _ _ <| Run.seq fun _ hk11 => Run.region ?_
    have hxl : x.l.length ≤ 120 := by have h9 : ¬ (x.l.length : Int) > 120 := c21; omega
    refine Sg 0 E3 <| Zl hk11 <| Run.block <| Run.loop1 (fun (k : Nat) => k ≤ x.l.length ∧ ∀ z ∈ x.l.take k, z.l.length ≤ 120) (fun k => .cons 0 (.slice (some ⟨q1, o1, none⟩) xs.length c) (.cons 3 (.int .i64 i) (.cons 4 (.int .i64 k) (.nil)))) (fun k => []) (fun k => x.l.length - k) (0) (⟨Nat.zero_le _, by simp⟩) ?_ ?_
    ·exact fun _ j => J.envJ (J.keep TN j) ⟨rfl, rfl, rfl, trivial⟩
    rintro k ⟨hkle, hzm⟩ kl12 hl12
    refine Run.seq fun _ hk13 => Zs fun _ hk14 => Mv 0 E3 <| Mv 1 E3 <| Mv 2 E3 <| Qp 3 E2 (QP.indexAddr rfl rfl rfl Tryz.underlying23 z35 Og Og) <| Fa 4 E3 f35_4 <| Qq 5 E2 (QR.loadSlF1 (y := x) (v := .slice x.a x.l.length x.c) rfl rfl g33 actE_len (hs0 _) hi (Law14Act.sub_l _)) ?_
    refine Qp 6 E2 (QP.len rfl rfl rfl Tryz.underlying33) <| Qp 7 E2 (Zb E3) <| J.caseD (fun c29 => ?_) (fun c29 => ?_)
    ·refine Zl hk14 <| Zt <| Run.skip <| hk13 _ _ <| Run.seq fun _ hk15 => Run.block <| Run.seq fun _ hk16 => Run.region ?_
     obtain ⟨z, hz⟩ : ∃ z, x.l[k]? = some z := ⟨_, GE (by omega)⟩
     obtain ⟨q2, o2, hxq, hs1⟩ := hxa.sl.get (by omega)
     refine Mv 0 E3 <| Mv 1 E3 <| Qp 2 E2 (QP.indexAddr rfl rfl rfl Tryz.underlying23 z35 Og Og) <| Fa 3 E3 f35_4 <| Qq 4 E2 (QR.loadSlF1 (y := x) (v := .slice x.a x.l.length x.c) rfl rfl g33 actE_len (hs0 _) hi (Law14Act.sub_l _)) ?_
     rw [hxq]
     refine Mv 5 E3 <| Qp 6 E2 (QP.indexAddr rfl rfl rfl Tryz.underlying33 z49 Og Og) <| Fa 7 E3 f49_12 <| Qq 8 E2 (QR.loadSlF1 (y := z) rfl rfl g47 tlvE_len (hs1 _) hz (Tlv.sub_stamps _)) ?_
     refine Qp 9 E2 (QP.len rfl rfl rfl Tryz.underlying47) <| Qp 10 E2 (QP.gtr rfl rfl rfl) <| J.caseD (fun c42 => ?_) (fun c42 => ?_)
     ·exact Zl hk16 <| Zt <| Zs fun _ hk17 => Sg 0 E3 <| Zl hk17 <| Run.ret <| Je E2 ⟨true, rfl, fun h => (by cases h), rfl⟩
     ·exact Zl hk16 <| Zf <| Run.skip <| hk15 _ _ <| Run.region <| Mv 0 E3 <| Qp 1 E2 (QP.add64 rfl rfl rfl Og Og) <| Sg 2 E3 <| Sq.nil <| J.envJ (J.keep TN (hl12 (k + 1) (⟨by omega, take_at hzm hz (by have h9 : ¬ (z.l.length : Int) > 120 := c42; omega)⟩) (by omega))) ⟨rfl, rfl, rfl, trivial⟩
    ·exact Zl hk14 <| Zf <| Run.exit rfl <| hk7 _ _ <| Run.region <| Mv 0 E3 <| Qp 1 E2 (QP.add64 rfl rfl rfl Og Og) <| Sg 2 E3 <| Sq.nil <| J.envJ (J.keep TN (hl4 (i + 1) (⟨by omega, by omega, take_at hsm hi ⟨hxl, by rw [List.take_of_length_le (by omega)] at hzm; exact hzm⟩⟩) (by omega))) ⟨rfl, rfl, trivial⟩
  ·exact Pt 7 E4 <| Zl hk6 <| Zf <| Run.exit rfl <| hk2 _ _ <| Zs fun _ hk18 => Mv 0 E3 <| Qp 1 E2 (QP.len rfl rfl rfl Tryz.underlying23) <| Qp 2 E2 (QP.gtr rfl rfl rfl) <| Sg 3 E3 <| Zl hk18 <| Run.ret <| Je E2 ⟨_, rfl, fun h => ⟨by have h9 := of_decide_eq_false h; have h8 : ¬ (xs.length : Int) > 120 := h9; omega, by have h9 := of_decide_eq_false h; have h8 : ¬ (xs.length : Int) > 120 := h9; have h7 : xs.take i = xs := List.take_of_length_le (by first | omega | (have h5 : ¬ (i : Int) < (xs.length : Int) := c8; omega)); rw [h7] at hsm; exact hsm⟩, rfl⟩
 ·exact Mv 4 E3 <| Sk 5 E3 <| Sk 6 E3 <| Pf 7 E4 <| Zl hk6 <| Zf <| Run.exit rfl <| hk2 _ _ <| Zs fun _ hk19 => Mv 0 E3 <| Qp 1 E2 (QP.len rfl rfl rfl Tryz.underlying23) <| Qp 2 E2 (QP.gtr rfl rfl rfl) <| Sg 3 E3 <| Zl hk19 <| Run.ret <| Je E2 ⟨_, rfl, fun h => ⟨by have h9 := of_decide_eq_false h; have h8 : ¬ (xs.length : Int) > 120 := h9; omega, by have h9 := of_decide_eq_false h; have h8 : ¬ (xs.length : Int) > 120 := h9; have h7 : xs.take i = xs := List.take_of_length_le (by first | omega | (have h5 : ¬ (i : Int) < (xs.length : Int) := c8; omega)); rw [h7] at hsm; exact hsm⟩, rfl⟩
end Slb
