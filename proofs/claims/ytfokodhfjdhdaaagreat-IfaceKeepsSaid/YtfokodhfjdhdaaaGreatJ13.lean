/- J13: a part of the proof that a law of this package holds for every input; no condition. -/
import Derived.Test.YtfokodhfjdhdaaaGreatM2
import Derived.Test.YtfokodhfjdhdaaaGreatJ12
namespace Slb
open Go Go.Proofs
set_option maxRecDepth 20000
theorem bs_at {n i : Nat} (x : Bs n) {u : UInt8} (h : x.l[i]? = some u) : SubL x.enc (0 + (Int.toNat i) * 1) 1 [byteV u] := by
 have hi : i < x.l.length := (List.getElem?_eq_some_iff.1 h).1
 have e : x.l = x.l.take i ++ u :: x.l.drop (i + 1) := by
   have : x.l[i] = u := (List.getElem?_eq_some_iff.1 h).2
   rw [← this, ← List.drop_eq_getElem_cons hi, List.take_append_drop]
 refine ⟨bytesV (x.l.take i), bytesV (x.l.drop (i + 1)), ?_, ?_, rfl⟩
 · unfold Bs.enc
   conv => lhs; rw [e]
   simp [bytesV]
 · rw [bytesV_length, List.length_take]
   simp; omega
theorem byte_eq {u t : UInt8} (h : (u.toNat : Int) = t.toNat) : u = t := UInt8.toNat_inj.1 (by omega)
def tmplL : List UInt8 := [0, 0, 0, 0, 0, 0, 0, 0, 0, 0, 255, 255]
theorem familyB_not {x : Bs 16} {i : Nat} {u : UInt8} (hi : i < 12) (hx : x.l[i]? = some u) (h : tmplL[i]? ≠ some u) : familyB x = 6 := by
 unfold familyB
 rw [if_neg fun hc => ?_]
 have h1 : (x.l.take 12)[i]? = some u := by rw [List.getElem?_take_of_lt hi]; exact hx
 rw [hc] at h1
 exact h h1
theorem familyB_yes {x : Bs 16} (h : x.l.take 12 = tmplL.take 12) : familyB x = 4 := by
 unfold familyB
 exact if_pos h
theorem tmpl_lo {i : Nat} (h : i < 10) : tmplL[i]? = some 0 := by
 have : ∀ j : Fin 10, tmplL[j.val]? = some 0 := by decide
 exact this ⟨i, h⟩
theorem tmpl_hi {i : Nat} (h : 10 ≤ i) (h2 : i < 12) : tmplL[i]? = some 255 := by
 have : ∀ j : Fin 12, 10 ≤ j.val → tmplL[j.val]? = some 255 := by decide
 exact this ⟨i, h2⟩ h
theorem u8_0 {u : UInt8} (h : (u.toNat : Int) = 0) : u = 0 := byte_eq h
theorem u8_255 {u : UInt8} (h : (u.toNat : Int) = 255) : u = 255 := byte_eq h

theorem rfamily_spec (F : Fr) (x : Bs 16) : Spec Tryz.prog 86 #[.agg (Bs.enc x).toArray] [] F (fun v S => v = .int .i64 (familyB x) ∧ S = []) := by
 refine Spec.intro (N := 26) (args := [.agg (Bs.enc x).toArray]) Tryz.func86 rfl rfl (by simp) ?_
 refine Zs fun _ hk1 => Ef 0 E2 (EF.boxA rfl rfl) ?_
 rintro _ _ ⟨b1, rfl, rfl⟩
 refine Sg 1 E3 <| Zl hk1 <| Run.seq fun _ hk2 => Zs fun _ hk3 => Sg 0 E3 <| Zl hk3 <| Run.block <| Run.loop1 (fun (i : Nat) => i ≤ 12 ∧ x.l.take i = tmplL.take i) (fun i => .cons 1 (.pointer (some ⟨b1, 0, none⟩)) (.cons 3 (.int .i64 i) (.nil))) (fun i => [blk b1 (Bs.enc x) 32]) (fun i => 12 - i) (0) (⟨Nat.zero_le _, rfl⟩) ?_ ?_
 ·exact fun _ j => J.envJ (J.keep Tk1 j) ⟨rfl, rfl, trivial⟩
 rintro i ⟨hile, hto⟩ kl4 hl4
 refine Run.seq fun _ hk5 => Zs fun _ hk6 => Mv 0 E3 <| Qp 1 E2 (Zb E3) <| J.caseD (fun c5 => ?_) (fun c5 => ?_)
 ·refine Zl hk6 <| Zt <| Run.skip <| hk5 _ _ <| Run.seq fun _ hk7 => Run.block <| Run.seq fun _ hk8 => Run.region ?_
  obtain ⟨u, hx⟩ : ∃ u, x.l[i]? = some u := ⟨_, GE (by rw [x.h]; omega)⟩
  refine Mv 0 E3 <| Qp 1 E2 (Zb E3) <| J.caseD (fun c9 => ?_) (fun c9 => ?_)
  ·refine Mv 2 E3 <| Ym 3 E4 <| Yp 4 E3 (QP.indexArr rfl rfl rfl Tryz.underlying32 z5 (by omega) (by omega)) <| Yq 5 E3 (Z1 E2 g5 (bs_at x hx)) ?_
   refine Yp 6 E3 (Zq E3) <| J.caseD (fun c14 => ?_) (fun c14 => ?_)
   ·refine Pt 7 E4 <| Mv 8 E3 <| Sk 9 E3 <| Sk 10 E3 <| Sk 11 E3 <| Sq.skip (i := 12) rfl (Want.undef rfl rfl rfl) rfl (ltN rfl) ?_
    refine Sq.skip (i := 13) rfl (Want.undef rfl rfl rfl) rfl (ltN rfl) ?_
    refine Sq.skip (i := 14) rfl (Want.undef rfl rfl rfl) rfl (ltN rfl) ?_
    refine Sq.skip (i := 15) rfl (Want.undef rfl rfl rfl) rfl (ltN rfl) ?_
    exact Sk 16 E3 <| Pt 17 E4 <| Zl hk8 <| Zt <| Zs fun _ hk9 => Sg 0 E3 <| Zl hk9 <| Run.ret <| Je E2 ⟨congrArg (Value.int .i64) (familyB_not (by omega) hx (by rw [tmpl_lo (by omega)]; intro h; cases h; exact c14 rfl)).symm, rfl⟩
   ·refine Pt 7 E4 <| Mv 8 E3 <| Ym 9 E4 <| Yp 10 E3 (QP.geq rfl rfl rfl) <| J.decF (by omega) ?_
    refine Ym 11 E4 <| Sk 12 E3 <| Sk 13 E3 <| Sk 14 E3 <| Sk 15 E3 <| Yp 16 E3 (QP.pick_f rfl rfl rfl) <| Pf 17 E4 <| Zl hk8 <| Zf <| Run.skip <| hk7 _ _ <| Run.region ?_
    have htu : tmplL[i]? = some u := by rw [tmpl_lo (by omega), u8_0 (Classical.not_not.1 c14)]
    exact Mv 0 E3 <| Qp 1 E2 (QP.add64 rfl rfl rfl Og Og) <| Sg 2 E3 <| Sq.nil <| J.envJ (J.keep Tk1 (hl4 (i + 1) (⟨by omega, by rw [List.take_add_one, List.take_add_one, hto, hx, htu]⟩) (by omega))) ⟨rfl, rfl, trivial⟩
  ·refine Mv 2 E3 <| Sk 3 E3 <| Sk 4 E3 <| Sk 5 E3 <| Sk 6 E3 <| Pf 7 E4 <| Mv 8 E3 <| Ym 9 E4 <| Yp 10 E3 (QP.geq rfl rfl rfl) <| J.decT (by omega) ?_
   refine Ym 11 E4 <| Ym 12 E4 <| Yp 13 E3 (QP.indexArr rfl rfl rfl Tryz.underlying32 z5 (by omega) (by omega)) <| Yq 14 E3 (Z1 E2 g5 (bs_at x hx)) ?_
   refine Yp 15 E3 (Zq E3) <| J.caseD (fun c23 => ?_) (fun c23 => ?_)
   ·exact Yp 16 E3 (QP.pick_t rfl rfl rfl) <| Pf 17 E4 <| Zl hk8 <| Zt <| Zs fun _ hk10 => Sg 0 E3 <| Zl hk10 <| Run.ret <| Je E2 ⟨congrArg (Value.int .i64) (familyB_not (by omega) hx (by rw [tmpl_hi (by omega) (by omega)]; intro h; cases h; exact c23 rfl)).symm, rfl⟩
   ·refine Yp 16 E3 (QP.pick_t rfl rfl rfl) <| Pf 17 E4 <| Zl hk8 <| Zf <| Run.skip <| hk7 _ _ <| Run.region ?_
    have htu : tmplL[i]? = some u := by rw [tmpl_hi (by omega) (by omega), u8_255 (Classical.not_not.1 c23)]
    exact Mv 0 E3 <| Qp 1 E2 (QP.add64 rfl rfl rfl Og Og) <| Sg 2 E3 <| Sq.nil <| J.envJ (J.keep Tk1 (hl4 (i + 1) (⟨by omega, by rw [List.take_add_one, List.take_add_one, hto, hx, htu]⟩) (by omega))) ⟨rfl, rfl, trivial⟩
 ·exact Zl hk6 <| Zf <| Run.exit rfl <| hk2 _ _ <| Zs fun _ hk11 => Sg 0 E3 <| Zl hk11 <| Run.ret <| Je E2 ⟨congrArg (Value.int .i64) (familyB_yes (by rw [show i = 12 by omega] at hto; exact hto)).symm, rfl⟩

/-! Bits cleared, one by one. -/
def topM (p : Nat) : UInt8 := UInt8.ofNat (65280 / 2 ^ p)
def holeM (p q : Nat) : UInt8 := topM p ||| UInt8.ofNat (255 / 2 ^ q)
def oneM (q : Nat) : UInt8 := UInt8.ofNat (128 / 2 ^ q)
def maskU (x : Bs 16) (n : Int) (i : Nat) : Bs 16 := ⟨x.l.mapIdx fun k c => c &&& holeM (keepN n k) (keepN i k), by rw [List.length_mapIdx, x.h]⟩
/-- All of the first ones are c. -/
def allC (x : Bs 8) (c : UInt8) (i : Nat) : Bool := (x.l.take i).all fun d => d == c
end Slb
