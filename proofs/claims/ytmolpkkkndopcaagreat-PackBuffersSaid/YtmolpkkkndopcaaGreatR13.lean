/- R13: a part of the proof that a law of this package holds for every input; no condition. -/
import Derived.Test.YtmolpkkkndopcaaGreatM2
import Derived.Test.YtmolpkkkndopcaaGreatR12
namespace Slb
open Go Go.Proofs
set_option maxRecDepth 20000
theorem bs_at {n i : Nat} (x : Bs n) {u : UInt8} (h : x.l[i]? = some u) : SubL x.enc (0 + (Int.toNat i) * 1) 1 [byteV u] := by
  have hi : i < x.l.length := (List.getElem?_eq_some_iff.1 h).1
  have e : x.l = x.l.take i ++ u :: x.l.drop (i + 1) := by
    have : x.l[i] = u := (List.getElem?_eq_some_iff.1 h).2
    rw [← this, ← List.drop_eq_getElem_cons hi, List.take_append_drop]
  refine ⟨bytesV (x.l.take i), bytesV (x.l.drop (i + 1)), ?_, ?_, rfl⟩
  · unfold Bs.enc
    conv => lhs; rw [e]
    simp [bytesV]
  · rw [bytesV_length, List.length_take]
    simp; omega
theorem byte_eq {u t : UInt8} (h : (u.toNat : Int) = t.toNat) : u = t := UInt8.toNat_inj.1 (by omega)
theorem familyB_two (a : Bs 16) : familyB a = 4 ∨ familyB a = 6 := by unfold familyB; split <;> simp

def tmplL : List UInt8 := [0, 0, 0, 0, 0, 0, 0, 0, 0, 0, 255, 255]
theorem familyB_not {x : Bs 16} {i : Nat} {u : UInt8} (hi : i < 12) (hx : x.l[i]? = some u) (h : tmplL[i]? ≠ some u) : familyB x = 6 := by
  unfold familyB
  rw [if_neg fun hc => ?_]
  have h1 : (x.l.take 12)[i]? = some u := by rw [List.getElem?_take_of_lt hi]; exact hx
  rw [hc] at h1
  exact h h1
theorem familyB_yes {x : Bs 16} (h : x.l.take 12 = tmplL.take 12) : familyB x = 4 := by
  unfold familyB
  exact if_pos h
theorem tmpl_lo {i : Nat} (h : i < 10) : tmplL[i]? = some 0 := by
  have : ∀ j : Fin 10, tmplL[j.val]? = some 0 := by decide
  exact this ⟨i, h⟩
theorem tmpl_hi {i : Nat} (h : 10 ≤ i) (h2 : i < 12) : tmplL[i]? = some 255 := by
  have : ∀ j : Fin 12, 10 ≤ j.val → tmplL[j.val]? = some 255 := by decide
  exact this ⟨i, h2⟩ h
theorem u8_0 {u : UInt8} (h : (u.toNat : Int) = 0) : u = 0 := byte_eq h
theorem u8_255 {u : UInt8} (h : (u.toNat : Int) = 255) : u = 255 := byte_eq h

theorem rfamily_spec (F : Fr) (x : Bs 16) : Spec Tryz.prog 44 #[.agg (Bs.enc x).toArray] [] F (fun v S => v = .int .i64 (familyB x) ∧ S = []) := by
 refine Spec.intro (N := 26) (args := [.agg (Bs.enc x).toArray]) Tryz.func44 rfl rfl (by simp) ?_
 refine Zs fun _ hk1 => Ef 0 E2 (EF.boxA rfl rfl) ?_
 rintro _ _ ⟨b1, rfl, rfl⟩
 refine Sg 1 E3 <| Zl hk1 <| Run.seq fun _ hk2 => Zs fun _ hk3 => Sg 0 E3 <| Zl hk3 <| Run.block <| Run.loop1 (fun (i : Nat) => i ≤ 12 ∧ x.l.take i = tmplL.take i) (fun i => .cons 1 (.pointer (some ⟨b1, 0, none⟩)) (.cons 3 (.int .i64 i) (.nil))) (fun i => [blk b1 (Bs.enc x) 23]) (fun i => 12 - i) (0) (⟨Nat.zero_le _, rfl⟩) ?_ ?_
 ·exact fun _ j => J.envJ (J.keep Tk1 j) ⟨rfl, rfl, trivial⟩
 rintro i ⟨hile, hto⟩ kl4 hl4
 refine Run.seq fun _ hk5 => Zs fun _ hk6 => Mv 0 E3 <| Qp 1 E2 (Zb E3) <| J.caseD (fun c5 => ?_) (fun c5 => ?_)
 ·refine Zl hk6 <| Zt <| Run.skip <| hk5 _ _ <| Run.seq fun _ hk7 => Run.block <| Run.seq fun _ hk8 => Run.region ?_
  obtain ⟨u, hx⟩ : ∃ u, x.l[i]? = some u := ⟨_, List.getElem?_eq_getElem (by rw [x.h]; omega)⟩
  refine Mv 0 E3 <| Qp 1 E2 (Zb E3) <| J.caseD (fun c9 => ?_) (fun c9 => ?_)
  ·refine Mv 2 E3 <| Ym 3 E4 <| Yp 4 E3 (QP.indexArr rfl rfl rfl Tryz.underlying23 z5 (by omega) (by omega)) <| Yq 5 E3 (Z1 E2 g5 (bs_at x hx)) ?_
   refine Yp 6 E3 (Zq E3) <| J.caseD (fun c14 => ?_) (fun c14 => ?_)
   ·refine Pt 7 E4 <| Mv 8 E3 <| Sk 9 E3 <| Sk 10 E3 <| Sk 11 E3 <| Sq.skip (i := 12) rfl (Want.undef rfl rfl rfl) rfl (ltN rfl) ?_
    refine Sq.skip (i := 13) rfl (Want.undef rfl rfl rfl) rfl (ltN rfl) ?_
    refine Sq.skip (i := 14) rfl (Want.undef rfl rfl rfl) rfl (ltN rfl) ?_
    refine Sq.skip (i := 15) rfl (Want.undef rfl rfl rfl) rfl (ltN rfl) ?_
    exact Sk 16 E3 <| Pt 17 E4 <| Zl hk8 <| Zt <| Zs fun _ hk9 => Sg 0 E3 <| Zl hk9 <| Run.ret <| J.ends (res_tmp rfl rfl) Takes.nil ⟨congrArg (Value.int .i64) (familyB_not (by omega) hx (by rw [tmpl_lo (by omega)]; intro h; cases h; exact c14 rfl)).symm, rfl⟩
   ·refine Pt 7 E4 <| Mv 8 E3 <| Ym 9 E4 <| Yp 10 E3 (QP.geq rfl rfl rfl) <| J.decF (by omega) ?_
    refine Ym 11 E4 <| Sk 12 E3 <| Sk 13 E3 <| Sk 14 E3 <| Sk 15 E3 <| Yp 16 E3 (QP.pick_f rfl rfl rfl) <| Pf 17 E4 <| Zl hk8 <| Zf <| Run.skip <| hk7 _ _ <| Run.region ?_
    have htu : tmplL[i]? = some u := by rw [tmpl_lo (by omega), u8_0 (Classical.not_not.1 c14)]
    exact Mv 0 E3 <| Qp 1 E2 (QP.add64 rfl rfl rfl Og Og) <| Sg 2 E3 <| Sq.nil <| J.envJ (J.keep Tk1 (hl4 (i + 1) (⟨by omega, by rw [List.take_add_one, List.take_add_one, hto, hx, htu]⟩) (by omega))) ⟨rfl, rfl, trivial⟩
  ·refine Mv 2 E3 <| Sk 3 E3 <| Sk 4 E3 <| Sk 5 E3 <| Sk 6 E3 <| Pf 7 E4 <| Mv 8 E3 <| Ym 9 E4 <| Yp 10 E3 (QP.geq rfl rfl rfl) <| J.decT (by omega) ?_
   refine Ym 11 E4 <| Ym 12 E4 <| Yp 13 E3 (QP.indexArr rfl rfl rfl Tryz.underlying23 z5 (by omega) (by omega)) <| Yq 14 E3 (Z1 E2 g5 (bs_at x hx)) ?_
   refine Yp 15 E3 (Zq E3) <| J.caseD (fun c23 => ?_) (fun c23 => ?_)
   ·exact Yp 16 E3 (QP.pick_t rfl rfl rfl) <| Pf 17 E4 <| Zl hk8 <| Zt <| Zs fun _ hk10 => Sg 0 E3 <| Zl hk10 <| Run.ret <| J.ends (res_tmp rfl rfl) Takes.nil ⟨congrArg (Value.int .i64) (familyB_not (by omega) hx (by rw [tmpl_hi (by omega) (by omega)]; intro h; cases h; exact c23 rfl)).symm, rfl⟩
   ·refine Yp 16 E3 (QP.pick_t rfl rfl rfl) <| Pf 17 E4 <| Zl hk8 <| Zf <| Run.skip <| hk7 _ _ <| Run.region ?_
    have htu : tmplL[i]? = some u := by rw [tmpl_hi (by omega) (by omega), u8_255 (Classical.not_not.1 c23)]
    exact Mv 0 E3 <| Qp 1 E2 (QP.add64 rfl rfl rfl Og Og) <| Sg 2 E3 <| Sq.nil <| J.envJ (J.keep Tk1 (hl4 (i + 1) (⟨by omega, by rw [List.take_add_one, List.take_add_one, hto, hx, htu]⟩) (by omega))) ⟨rfl, rfl, trivial⟩
 ·exact Zl hk6 <| Zf <| Run.exit rfl <| hk2 _ _ <| Zs fun _ hk11 => Sg 0 E3 <| Zl hk11 <| Run.ret <| J.ends (res_tmp rfl rfl) Takes.nil ⟨congrArg (Value.int .i64) (familyB_yes (by rw [show i = 12 by omega] at hto; exact hto)).symm, rfl⟩

/-! Bits cleared, one by one. -/
def topM (p : Nat) : UInt8 := UInt8.ofNat (65280 / 2 ^ p)
def holeM (p q : Nat) : UInt8 := topM p ||| UInt8.ofNat (255 / 2 ^ q)
def oneM (q : Nat) : UInt8 := UInt8.ofNat (128 / 2 ^ q)
theorem hole_same {p : Nat} (h : p ≤ 8) : holeM p p = 255 := by
  have : ∀ k : Fin 9, holeM k.val k.val = 255 := by decide
  exact this ⟨p, by omega⟩
theorem hole_end {p : Nat} (h : p ≤ 8) : holeM p 8 = topM p := by
  have : ∀ k : Fin 9, holeM k.val 8 = topM k.val := by decide
  exact this ⟨p, by omega⟩
theorem hole_step {p q : Nat} (h : p ≤ q) (hq : q < 8) : holeM p q &&& ~~~(oneM q) = holeM p (q + 1) := by
  have : ∀ k l : Fin 8, k.val ≤ l.val → holeM k.val l.val &&& ~~~(oneM l.val) = holeM k.val (l.val + 1) := by decide
  exact this ⟨p, by omega⟩ ⟨q, hq⟩ h
theorem bit_clear (c : UInt8) {q : Nat} (hq : q < 8) : c &&& ~~~(oneM q) = c ↔ c.toNat / 2 ^ (7 - q) % 2 = 0 := by
  have : ∀ k : Fin 256, ∀ l : Fin 8, (UInt8.ofNat k.val &&& ~~~(oneM l.val) = UInt8.ofNat k.val) ↔ (UInt8.ofNat k.val).toNat / 2 ^ (7 - l.val) % 2 = 0 := by decide +kernel
  have h := this ⟨c.toNat, c.toNat_lt⟩ ⟨q, hq⟩
  simpa using h
def maskU (x : Bs 16) (n : Int) (i : Nat) : Bs 16 := ⟨x.l.mapIdx fun k c => c &&& holeM (keepN n k) (keepN i k), by rw [List.length_mapIdx, x.h]⟩
theorem maskU_at {x : Bs 16} {n : Int} {i k : Nat} {c : UInt8} (h : x.l[k]? = some c) : (maskU x n i).l[k]? = some (c &&& holeM (keepN n k) (keepN i k)) := by
  show (x.l.mapIdx _)[k]? = _
  rw [List.getElem?_mapIdx, h]
  rfl
theorem maskU_start (x : Bs 16) (n : Nat) : maskU x n n = x := by
  apply Bs.ext
  show x.l.mapIdx _ = x.l
  apply List.ext_getElem?
  intro k
  rw [List.getElem?_mapIdx]
  cases x.l[k]? with
  | none => rfl
  | some c =>
    simp only [Option.map_some]
    rw [hole_same (by unfold keepN; omega)]
    have : ∀ j : Fin 256, UInt8.ofNat j.val &&& 255 = UInt8.ofNat j.val := by decide
    have h := this ⟨c.toNat, c.toNat_lt⟩
    simp only [UInt8.ofNat_toNat] at h
    rw [h]
theorem maskU_end (x : Bs 16) (n : Int) : maskU x n 128 = maskedB x n := by
  apply Bs.ext
  show x.l.mapIdx _ = x.l.mapIdx _
  apply List.ext_getElem?
  intro k
  rw [List.getElem?_mapIdx, List.getElem?_mapIdx]
  by_cases hk : k < 16
  · rw [show keepN ((128 : Nat) : Int) k = 8 by unfold keepN; omega, hole_end (by unfold keepN; omega)]
    rfl
  · rw [List.getElem?_eq_none (by rw [x.h]; omega)]; rfl
theorem maskU_step {x : Bs 16} {n i : Nat} {d : UInt8} (hn : n ≤ i) (hi : i < 128) (hd : (maskU x n i).l[i / 8]? = some d) : (maskU x n i).put (i / 8) (d &&& ~~~(oneM (i % 8))) = maskU x n (i + 1) := by
  have hlt : i / 8 < x.l.length := by rw [x.h]; omega
  have hc : x.l[i / 8]? = some x.l[i / 8] := List.getElem?_eq_getElem hlt
  generalize x.l[i / 8] = c at hc
  have hd2 := maskU_at (n := (n : Int)) (i := i) hc
  rw [hd] at hd2
  obtain rfl := Option.some.inj hd2
  apply Bs.ext
  show (x.l.mapIdx _).set (i / 8) _ = x.l.mapIdx _
  apply List.ext_getElem?
  intro k
  rw [List.getElem?_set, List.getElem?_mapIdx, List.getElem?_mapIdx, List.length_mapIdx]
  by_cases he : i / 8 = k
  · subst he
    rw [if_pos rfl, if_pos hlt, hc]
    simp only [Option.map_some]
    rw [UInt8.and_assoc, show keepN (i : Int) (i / 8) = i % 8 by unfold keepN; omega, show keepN ((i + 1 : Nat) : Int) (i / 8) = i % 8 + 1 by unfold keepN; omega, hole_step (by unfold keepN; omega) (by omega)]
  · rw [if_neg he, show keepN ((i + 1 : Nat) : Int) k = keepN (i : Int) k by unfold keepN; omega]
theorem quo8 {i : Nat} (h : i < 1000) : IntKind.i64.wrap ((i : Int).tdiv 8) = ((i / 8 : Nat) : Int) := by
  rw [show ((i : Int).tdiv 8) = ((i / 8 : Nat) : Int) from rfl, wrap_i64 (by omega) (by omega)]
theorem wrapU64 {n : Int} (h0 : 0 ≤ n) (h1 : n < 18446744073709551616) : IntKind.u64.wrap n = n := by
  unfold IntKind.wrap
  simp only [show (IntKind.u64.bits : Nat) = 64 from rfl, show IntKind.u64.signed = false from rfl]
  simp
  omega
theorem mask_self {x : Bs 16} {n i : Nat} {d : UInt8} (hn : n ≤ i) (hi : i < 128) (hx : maskU x n i = x) (hd : x.l[i / 8]? = some d) : maskU x n (i + 1) = x ↔ d.toNat / 2 ^ (7 - i % 8) % 2 = 0 := by
  have hlt : i / 8 < x.l.length := by rw [x.h]; omega
  have hs := maskU_step hn hi (by rw [hx]; exact hd)
  rw [hx] at hs
  rw [← hs, ← bit_clear d (by omega)]
  constructor
  · intro h
    have h2 := congrArg (fun y : Bs 16 => y.l[i / 8]?) h
    simp only [Bs.put, List.getElem?_set_self hlt, hd] at h2
    exact Option.some.inj h2
  · intro h
    rw [h]
    apply Bs.ext
    show x.l.set (i / 8) d = x.l
    obtain ⟨_, rfl⟩ := List.getElem?_eq_some_iff.1 hd
    exact List.set_getElem_self _
theorem holeM_zero {p q : Nat} (c : UInt8) (hp : p ≤ q) (hq : q < 8) (h : c &&& topM p = c) : c.toNat / 2 ^ (7 - q) % 2 = 0 := by
  have : ∀ k : Fin 256, ∀ a b : Fin 8, a.val ≤ b.val → UInt8.ofNat k.val &&& topM a.val = UInt8.ofNat k.val → (UInt8.ofNat k.val).toNat / 2 ^ (7 - b.val) % 2 = 0 := by decide +kernel
  have h2 := this ⟨c.toNat, c.toNat_lt⟩ ⟨p, by omega⟩ ⟨q, hq⟩ hp
  simp only [UInt8.ofNat_toNat] at h2
  exact h2 h
theorem masked_bit {x : Bs 16} {n i : Nat} {d : UInt8} (hn : n ≤ i) (hi : i < 128) (hx : maskedB x n = x) (hd : x.l[i / 8]? = some d) : d.toNat / 2 ^ (7 - i % 8) % 2 = 0 := by
  have h2 := congrArg (fun y : Bs 16 => y.l[i / 8]?) hx
  have h3 : (maskedB x n).l[i / 8]? = some (d &&& maskB n (i / 8)) := by
    show (x.l.mapIdx _)[i / 8]? = _
    rw [List.getElem?_mapIdx, hd]; rfl
  simp only [h3, hd] at h2
  exact holeM_zero d (p := keepN n (i / 8)) (by unfold keepN; omega) (by omega) (Option.some.inj h2)

theorem rbit_spec (F : Fr) (x : Bs 16) (i : Nat) (hi : i < 128) {c : UInt8} (hc : x.l[i / 8]? = some c) : Spec Tryz.prog 84 #[.agg (Bs.enc x).toArray, .int .i64 (i : Int)] [] F (fun v S => v = .int .i64 ((c.toNat / 2 ^ (7 - i % 8) % 2 : Nat) : Int) ∧ S = []) := by
 refine Spec.intro (N := 16) (args := [.agg (Bs.enc x).toArray, .int .i64 (i : Int)]) Tryz.func84 rfl rfl (by simp) ?_
 refine Zs fun _ hk1 => Ef 0 E2 (EF.boxA rfl rfl) ?_
 rintro _ _ ⟨b2, rfl, rfl⟩
 refine Sg 1 E3 <| Zl hk1 <| Zs fun _ hk2 => Mv 0 E3 <| Qp 1 E2 (QP.quo rfl rfl rfl (by decide)) ?_
 rw [quo8 (by omega)]
 refine Qp 2 E2 (QP.indexArr rfl rfl rfl Tryz.underlying23 z5 (by omega) (by omega)) <| Qq 3 E2 (Z1 E2 g5 (bs_at x hc)) ?_
 refine Mv 4 E3 <| Qp 5 E2 (QP.rem rfl rfl rfl (by decide)) ?_
 rw [show ((i : Int).tmod 8) = ((i % 8 : Nat) : Int) from rfl]
 refine Qp 6 E2 (QP.sub64 rfl rfl rfl (by omega) (by omega)) <| Qp 7 E2 (QP.conv rfl rfl Tryz.underlying3 Tryz.underlying120) ?_
 rw [wrapU64 (n := 7 - ((i % 8 : Nat) : Int)) (by omega) (by omega)]
 refine Qp 8 E2 (QP.shr8 rfl rfl rfl (by omega)) ?_
 rw [show (c.toNat : Int) / 2 ^ min (7 - ((i % 8 : Nat) : Int)).toNat 8 = ((c.toNat / 2 ^ (7 - i % 8) : Nat) : Int) by rw [show min (7 - ((i % 8 : Nat) : Int)).toNat 8 = 7 - i % 8 by omega]; norm_cast]
 have hcl := Nat.le_trans (Nat.div_le_self c.toNat (2 ^ (7 - i % 8))) (Nat.le_of_lt_succ c.toNat_lt)
 generalize hq : c.toNat / 2 ^ (7 - i % 8) = q at hcl ⊢
 refine Qp 9 E2 (QP.conv rfl rfl Tryz.underlying5 Tryz.underlying3) ?_
 rw [wrap_i64 (n := (q : Int)) (by omega) (by omega)]
 exact Qp 10 E2 (QP.and1 rfl rfl rfl (by omega) (by omega)) <| Sg 11 E3 <| Zl hk2 <| Run.ret <| J.ends (res_tmp rfl rfl) Takes.nil ⟨congrArg (Value.int .i64) (by rw [hq]; omega), rfl⟩

theorem rcheck_spec (F : Fr) (p : Prefix) : Spec Tryz.prog 48 #[.agg (Prefix.enc p).toArray] [] F (fun v S => v = .int .i64 (ernoB (checkB p)) ∧ S = []) := by
 refine Spec.intro (N := 23) (args := [.agg (Prefix.enc p).toArray]) Tryz.func48 rfl rfl (by simp) ?_
 refine Zs fun _ hk1 => Ef 0 E2 (EF.boxA rfl rfl) ?_
 rintro _ _ ⟨b1, rfl, rfl⟩
 refine Sg 1 E3 <| Zl hk1 <| Run.seq fun _ hk2 => Zs fun _ hk3 => Fa 0 E3 f40_1 <| Qq 1 E2 (Z1 E2 g3 (Prefix.sub_len _)) ?_
 refine Qp 2 E2 (Zb E3) <| J.caseD (fun c6 => ?_) (fun c6 => ?_)
 ·exact Mv 3 E3 <| Sk 4 E3 <| Sk 5 E3 <| Sk 6 E3 <| Pt 7 E4 <| Zl hk3 <| Zt <| Zs fun _ hk4 => Sg 0 E3 <| Zl hk4 <| Run.ret <| J.ends (res_tmp rfl rfl) Takes.nil ⟨by rw [show checkB p = false by simp_all [checkB]]; rfl, rfl⟩
 ·refine Mv 3 E3 <| Yf 4 E4 f40_1 <| Yq 5 E3 (Z1 E2 g3 (Prefix.sub_len _)) ?_
  refine Yp 6 E3 (QP.gtr rfl rfl rfl) <| J.caseD (fun c10 => ?_) (fun c10 => ?_)
  ·exact Pf 7 E4 <| Zl hk3 <| Zt <| Zs fun _ hk5 => Sg 0 E3 <| Zl hk5 <| Run.ret <| J.ends (res_tmp rfl rfl) Takes.nil ⟨by rw [show checkB p = false by simp_all [checkB]]; rfl, rfl⟩
  ·refine Pf 7 E4 <| Zl hk3 <| Zf <| Run.skip <| hk2 _ _ <| Run.seq fun _ hk6 => Zs fun _ hk7 => Fa 0 E3 f40_1 <| Qq 1 E2 (Z1 E2 g3 (Prefix.sub_len _)) ?_
   refine Sg 2 E3 <| Zl hk7 <| Run.block <| Run.loop1 (fun (i : Nat) => p.len.val.toNat ≤ i ∧ i ≤ 128 ∧ maskU p.a p.len.val.toNat i = p.a) (fun i => .cons 1 (.pointer (some ⟨b1, 0, none⟩)) (.cons 3 (.int .i64 i) (.nil))) (fun i => [blk b1 (Prefix.enc p) 40]) (fun i => 128 - i) (p.len.val.toNat) (⟨Nat.le_refl _, by omega, maskU_start _ _⟩) ?_ ?_
   ·exact fun _ j => J.envJ (J.keep Tk1 j) ⟨rfl, (congrArg (fun n => some (Value.int .i64 n)) (show _ = _ by omega)), trivial⟩
   rintro i ⟨hni, hile, hmu⟩ kl8 hl8
   refine Run.seq fun _ hk9 => Zs fun _ hk10 => Mv 0 E3 <| Qp 1 E2 (Zb E3) <| J.caseD (fun c15 => ?_) (fun c15 => ?_)
   ·refine Zl hk10 <| Zt <| Run.skip <| hk9 _ _ <| Run.seq fun _ hk11 => Run.block <| Run.seq fun _ hk12 => Run.region ?_
    obtain ⟨d, hd⟩ : ∃ d, p.a.l[i / 8]? = some d := ⟨_, List.getElem?_eq_getElem (by rw [p.a.h]; omega)⟩
    refine Fa 0 E3 f40_0 <| Qq 1 E2 (Z0 E2 g23 (Prefix.sub_a _)) ?_
    refine Mv 2 E3 <| Ef 3 E2 (EF.call rfl ce84 rfl Takes.nil (fun F' hle hr => rbit_spec F' p.a i (by omega) hd)) ?_
    rintro _ _ ⟨_, ⟨rfl, rfl⟩, rfl⟩
    refine J.app <| Qp 4 E2 (Ze E3) <| J.caseD (fun c22 => ?_) (fun c22 => ?_)
    ·exact Zl hk12 <| Zt <| Zs fun _ hk13 => Sg 0 E3 <| Zl hk13 <| Run.ret <| J.ends (res_tmp rfl rfl) Takes.nil ⟨by rw [show checkB p = false from Bool.eq_false_iff.2 fun h => by have h2 := (checkB_len h).2.2; rw [← Int.toNat_of_nonneg (show 0 ≤ p.len.val by omega)] at h2; have := masked_bit hni (by omega) h2 hd; omega]; rfl, rfl⟩
    ·exact Zl hk12 <| Zf <| Run.skip <| hk11 _ _ <| Run.region <| Mv 0 E3 <| Qp 1 E2 (QP.add64 rfl rfl rfl Og Og) <| Sg 2 E3 <| Sq.nil <| J.envJ (J.keep Tk1 (hl8 (i + 1) (⟨by omega, by omega, (mask_self hni (by omega) hmu hd).2 (by omega)⟩) (by omega))) ⟨rfl, rfl, trivial⟩
   ·exact Zl hk10 <| Zf <| Run.exit rfl <| hk6 _ _ <| Zs fun _ hk14 => Sg 0 E3 <| Zl hk14 <| Run.ret <| J.ends (res_tmp rfl rfl) Takes.nil ⟨by rw [show checkB p = true by unfold checkB; rw [decide_eq_false (show ¬ p.len.val < 0 by omega), decide_eq_false (show ¬ p.len.val > 128 by omega), decide_eq_false (by rw [← Int.toNat_of_nonneg (show 0 ≤ p.len.val by omega), ← maskU_end]; rw [show i = 128 by omega] at hmu; simpa using hmu)]; rfl]; rfl, rfl⟩

theorem rpfamily_spec (F : Fr) (p : Prefix) : Spec Tryz.prog 45 #[.agg (Prefix.enc p).toArray] [] F (fun v S => v = .int .i64 (pfamilyB p) ∧ S = []) := by
 refine Spec.intro (N := 12) (args := [.agg (Prefix.enc p).toArray]) Tryz.func45 rfl rfl (by simp) ?_
 refine Zs fun _ hk1 => Ef 0 E2 (EF.boxA rfl rfl) ?_
 rintro _ _ ⟨b1, rfl, rfl⟩
 refine Sg 1 E3 <| Zl hk1 <| Run.seq fun _ hk2 => Zs fun _ hk3 => Fa 0 E3 f40_1 <| Qq 1 E2 (Z1 E2 g3 (Prefix.sub_len _)) ?_
 refine Qp 2 E2 (QP.geq rfl rfl rfl) <| J.caseD (fun c5 => ?_) (fun c5 => ?_)
 ·refine Mv 3 E3 <| Yf 4 E4 f40_0 <| Yq 5 E3 (Z0 E2 g23 (Prefix.sub_a _)) ?_
  refine Ye 6 E3 (EF.call rfl ce44 rfl Takes.nil (fun F' hle hr => rfamily_spec F' ((p).a))) ?_
  rintro _ _ ⟨_, ⟨rfl, rfl⟩, rfl⟩
  refine J.app <| Yp 7 E3 (Ze E3) <| J.caseD (fun c10 => ?_) (fun c10 => ?_)
  ·exact Pt 8 E4 <| Zl hk3 <| Zt <| Zs fun _ hk4 => Sg 0 E3 <| Zl hk4 <| Run.ret <| J.ends (res_tmp rfl rfl) Takes.nil ⟨congrArg (Value.int .i64) (by unfold pfamilyB; rw [if_neg (by omega)]; omega), rfl⟩
  ·exact Pt 8 E4 <| Zl hk3 <| Zf <| Run.skip <| hk2 _ _ <| Zs fun _ hk5 => Sg 0 E3 <| Zl hk5 <| Run.ret <| J.ends (res_tmp rfl rfl) Takes.nil ⟨congrArg (Value.int .i64) (by unfold pfamilyB; rw [if_neg (by omega)]; rcases familyB_two p.a with h | h <;> omega), rfl⟩
 ·exact Mv 3 E3 <| Sk 4 E3 <| Sk 5 E3 <| Sk 6 E3 <| Sk 7 E3 <| Pf 8 E4 <| Zl hk3 <| Zf <| Run.skip <| hk2 _ _ <| Zs fun _ hk6 => Sg 0 E3 <| Zl hk6 <| Run.ret <| J.ends (res_tmp rfl rfl) Takes.nil ⟨congrArg (Value.int .i64) (by unfold pfamilyB; rw [if_pos (by omega)]), rfl⟩

theorem rcheckPair_spec (F : Fr) (p : Pair) : Spec Tryz.prog 27 #[.agg (Pair.enc p).toArray] [] F (fun v S => v = .int .i64 (ernoB (checkPairB p)) ∧ S = []) := by
 refine Spec.intro (N := 22) (args := [.agg (Pair.enc p).toArray]) Tryz.func27 rfl rfl (by simp) ?_
 refine Zs fun _ hk1 => Ef 0 E2 (EF.boxA rfl rfl) ?_
 rintro _ _ ⟨b1, rfl, rfl⟩
 refine Sg 1 E3 <| Zl hk1 <| Run.seq fun _ hk2 => Run.seq fun _ hk3 => Run.regionD (M := [0, 1, 3, 7, 15, 31, 63, 127, 255, 511, 1023, 2047, 4095, 8191, 2047, 18431, 65535, 131071, 262143]) (q := 450427) (r := 36930) Kr ?_
 refine Dp 0 E2 (Za E2 f42_0) <| Dr 1 E2 (Z0 E2 g40 (Pair.sub_dst _)) ?_
 refine De 2 <| Om [] rfl rfl (EF.call rfl ce48 rfl Takes.nil (fun F' hle hr => rcheck_spec F' ((p).dst))) ?_
 rintro _ _ ⟨_, ⟨rfl, rfl⟩, rfl⟩
 refine ⟨fun _ h => (by cases h), ?_⟩
 refine J.app <| Dp 3 E2 (Zq E3) <| J.caseD (fun c6 => ?_) (fun c6 => ?_)
 ·refine Dp 4 E2 (Zm E2) <| Ds 5 E3 <| Ds 6 E3 <| De 7 <| One.skipD (o := _) rfl Kr (Want.no rfl rfl rfl rfl) rfl (ltN rfl) ?_
  refine Ds 8 E3 <| Dp 9 E2 (QP.pick_t rfl rfl rfl) <| Dp 10 E2 (Zm E2) <| Ds 11 E3 <| Ds 12 E3 <| Ds 14 E3 <| Ds 15 E3 <| De 13 <| One.skipD (o := _) rfl Kr (Want.no rfl rfl rfl rfl) rfl (ltN rfl) ?_
  refine De 16 <| One.skipD (o := _) rfl Kr (Want.no rfl rfl rfl rfl) rfl (ltN rfl) ?_
  exact Ds 17 E3 <| Dp 18 E2 (QP.pick_t rfl rfl rfl) <| Dn <| hk3 _ _ <| Zt <| Zs fun _ hk4 => Sg 0 E3 <| Zl hk4 <| Run.ret <| J.ends (res_tmp rfl rfl) Takes.nil ⟨by rw [show checkPairB p = false by simp_all [checkPairB, ernoB]]; rfl, rfl⟩
 ·refine Dp 4 E2 (Zm E2) <| Dy 5 E3 (Za E2 f42_1) <| Dz 6 E3 (Z0 E2 g40 (Pair.sub_src _)) ?_
  refine De 7 <| One.mk (o := _) (l := []) rfl Kr (Want.yes rfl rfl rfl rfl) rfl (ltN rfl) (EF.call rfl ce48 rfl Takes.nil (fun F' hle hr => rcheck_spec F' ((p).src))) Kr ?_
  rintro _ _ ⟨_, ⟨rfl, rfl⟩, rfl⟩
  refine ⟨fun _ h => (by cases h), ?_⟩
  refine J.app <| Dy 8 E3 (Zq E3) <| J.caseD (fun c11 => ?_) (fun c11 => ?_)
  ·refine Dp 9 E2 (QP.pick_f rfl rfl rfl) <| Dp 10 E2 (Zm E2) <| Ds 11 E3 <| Ds 12 E3 <| Ds 14 E3 <| Ds 15 E3 <| De 13 <| One.skipD (o := _) rfl Kr (Want.no rfl rfl rfl rfl) rfl (ltN rfl) ?_
   refine De 16 <| One.skipD (o := _) rfl Kr (Want.no rfl rfl rfl rfl) rfl (ltN rfl) ?_
   exact Ds 17 E3 <| Dp 18 E2 (QP.pick_t rfl rfl rfl) <| Dn <| hk3 _ _ <| Zt <| Zs fun _ hk5 => Sg 0 E3 <| Zl hk5 <| Run.ret <| J.ends (res_tmp rfl rfl) Takes.nil ⟨by rw [show checkPairB p = false by simp_all [checkPairB, ernoB]]; rfl, rfl⟩
  ·refine Dp 9 E2 (QP.pick_f rfl rfl rfl) <| Dp 10 E2 (Zm E2) <| Dy 11 E3 (Za E2 f42_0) <| Dz 12 E3 (Z0 E2 g40 (Pair.sub_dst _)) ?_
   refine Dy 14 E3 (Za E2 f42_1) <| Dz 15 E3 (Z0 E2 g40 (Pair.sub_src _)) ?_
   refine De 13 <| One.mk (o := _) (l := [15]) rfl Kr (Want.yes rfl rfl rfl rfl) rfl (ltN rfl) (EF.call rfl ce45 rfl Takes.nil (fun F' hle hr => rpfamily_spec F' ((p).dst))) Kr ?_
   rintro _ _ ⟨_, ⟨rfl, rfl⟩, rfl⟩
   refine ⟨?_, ?_⟩
   ·rw [List.forall_mem_cons]
    refine ⟨?_, fun _ h => (by cases h)⟩
    ·refine Look.app ?_
     exact Look.mk rfl rfl rfl (Z0 E2 g40 (Pair.sub_src _))
   refine ?_
   refine J.app <| De 16 <| One.mk (o := _) (l := []) rfl Kr (Want.yes rfl rfl rfl rfl) rfl (ltN rfl) (EF.call rfl ce45 rfl Takes.nil (fun F' hle hr => rpfamily_spec F' ((p).src))) Kr ?_
   rintro _ _ ⟨_, ⟨rfl, rfl⟩, rfl⟩
   refine ⟨fun _ h => (by cases h), ?_⟩
   refine J.app <| Dy 17 E3 (Zq E3) <| J.caseD (fun c20 => ?_) (fun c20 => ?_)
   ·exact Dp 18 E2 (QP.pick_f rfl rfl rfl) <| Dn <| hk3 _ _ <| Zt <| Zs fun _ hk6 => Sg 0 E3 <| Zl hk6 <| Run.ret <| J.ends (res_tmp rfl rfl) Takes.nil ⟨by rw [show checkPairB p = false by simp_all [checkPairB, ernoB]]; rfl, rfl⟩
   ·exact Dp 18 E2 (QP.pick_f rfl rfl rfl) <| Dn <| hk3 _ _ <| Zf <| Run.skip <| hk2 _ _ <| Zs fun _ hk7 => Sg 0 E3 <| Zl hk7 <| Run.ret <| J.ends (res_tmp rfl rfl) Takes.nil ⟨by rw [show checkPairB p = true by simp_all [checkPairB, ernoB]]; rfl, rfl⟩

/-- All of the first ones are c. -/
def allC (x : Bs 8) (c : UInt8) (i : Nat) : Bool := (x.l.take i).all fun d => d == c
theorem allC_succ {x : Bs 8} {c d : UInt8} {i : Nat} (h : x.l[i]? = some d) : allC x c (i + 1) = (allC x c i && (d == c)) := by
  unfold allC
  rw [take_succ_get h, List.all_append]
  simp
theorem allC_end {x : Bs 8} {c : UInt8} : allC x c 8 = decide (x = ⟨List.replicate 8 c, by simp⟩) := by
  unfold allC
  rw [List.take_of_length_le (by rw [x.h]; omega)]
  apply Bool.eq_iff_iff.2
  rw [List.all_eq_true, decide_eq_true_eq]
  constructor
  · intro h
    apply Bs.ext
    show x.l = List.replicate 8 c
    rw [List.eq_replicate_iff]
    exact ⟨x.h, fun d hd => by simpa using h d hd⟩
  · intro h d hd
    rw [h] at hd
    simp only [List.mem_replicate] at hd
    simp [hd.2]
theorem u8_eq {d c : UInt8} : ((d.toNat : Int) = (c.toNat : Int)) ↔ (d == c) = true := by
  rw [beq_iff_eq]
  constructor
  · intro h; exact UInt8.toNat_inj.1 (by omega)
  · intro h; rw [h]

theorem special_spec (F : Fr) (x : Bs 8) : Spec Tryz.prog 26 #[.agg (Bs.enc x).toArray] [] F (fun v S => v = .tuple #[.bool (decide (x = Bs.zero 8)), .bool (decide (x = onesB))] ∧ S = []) := by
 refine Spec.intro (N := 27) (args := [.agg (Bs.enc x).toArray]) Tryz.func26 rfl rfl (by simp) ?_
 refine Zs fun _ hk1 => Ef 0 E2 (EF.boxA rfl rfl) ?_
 rintro _ _ ⟨b1, rfl, rfl⟩
 refine Sg 1 E3 <| Sg 2 E3 <| Zl hk1 <| Zs fun _ hk2 => Sg 0 E3 <| Sg 1 E3 <| Zl hk2 <| Run.seq fun _ hk3 => Zs fun _ hk4 => Sg 0 E3 <| Zl hk4 <| Run.block <| Run.loop3 (fun (i : Nat) (z : Bool) (f : Bool) => i ≤ 8 ∧ z = allC x 0 i ∧ f = allC x 255 i) (fun i z f => .cons 1 (.pointer (some ⟨b1, 0, none⟩)) (.cons 4 (.bool z) (.cons 5 (.bool f) (.cons 6 (.int .i64 i) (.nil))))) (fun i z f => [blk b1 (Bs.enc x) 38]) (fun i z f => 8 - i) (0) (true) (true) (⟨Nat.zero_le _, rfl, rfl⟩) ?_ ?_
 ·exact fun _ j => J.envJ (J.keep Tk1 j) ⟨rfl, rfl, rfl, rfl, trivial⟩
 rintro i z f ⟨hile, hz, hf⟩ kl5 hl5
 refine Run.seq fun _ hk6 => Zs fun _ hk7 => Mv 0 E3 <| Qp 1 E2 (Zb E3) <| J.caseD (fun c8 => ?_) (fun c8 => ?_)
 ·refine Zl hk7 <| Zt <| Run.skip <| hk6 _ _ <| Run.seq fun _ hk8 => Run.block <| Run.seq fun _ hk9 => Run.region ?_
  obtain ⟨d, hd⟩ : ∃ d, x.l[i]? = some d := ⟨_, List.getElem?_eq_getElem (by rw [x.h]; omega)⟩
  refine Mv 0 E3 <| J.caseB (fun c11 => ?_) (fun c11 => ?_)
  ·refine Mv 1 E3 <| Ym 2 E4 <| Yp 3 E3 (QP.indexArr rfl rfl rfl Tryz.underlying38 z5 (by omega) (by omega)) <| Yq 4 E3 (Z1 E2 g5 (bs_at x hd)) ?_
   refine Yp 5 E3 (Ze E3) <| J.caseD (fun c16 => ?_) (fun c16 => ?_)
   ·refine Pt 6 E4 <| Sg 7 E3 <| Zl hk9 <| Run.region <| Mv 0 E3 <| J.caseB (fun c18 => ?_) (fun c18 => ?_)
    ·refine Mv 1 E3 <| Ym 2 E4 <| Yp 3 E3 (QP.indexArr rfl rfl rfl Tryz.underlying38 z5 (by omega) (by omega)) <| Yq 4 E3 (Z1 E2 g5 (bs_at x hd)) ?_
     refine Yp 5 E3 (Ze E3) <| J.caseD (fun c23 => ?_) (fun c23 => ?_)
     ·exact Pt 6 E4 <| Sg 7 E3 <| Zl hk8 <| Run.region <| Mv 0 E3 <| Qp 1 E2 (QP.add64 rfl rfl rfl Og Og) <| Sg 2 E3 <| Sq.nil <| J.envJ (J.keep Tk1 (hl5 (i + 1) (true) (true) (⟨by omega, by rw [allC_succ hd, ← hz, c11]; rw [(u8_eq (c := 0)).1 c16]; rfl, by rw [allC_succ hd, ← hf, c18]; rw [(u8_eq (c := 255)).1 c23]; rfl⟩) (by omega))) ⟨rfl, rfl, rfl, rfl, trivial⟩
     ·exact Pt 6 E4 <| Sg 7 E3 <| Zl hk8 <| Run.region <| Mv 0 E3 <| Qp 1 E2 (QP.add64 rfl rfl rfl Og Og) <| Sg 2 E3 <| Sq.nil <| J.envJ (J.keep Tk1 (hl5 (i + 1) (true) (false) (⟨by omega, by rw [allC_succ hd, ← hz, c11]; rw [(u8_eq (c := 0)).1 c16]; rfl, by rw [allC_succ hd, ← hf, c18]; rw [Bool.eq_false_iff.2 (fun h => c23 ((u8_eq (c := 255)).2 h))]; rfl⟩) (by omega))) ⟨rfl, rfl, rfl, rfl, trivial⟩
    ·exact Mv 1 E3 <| Sk 2 E3 <| Sk 3 E3 <| Sk 4 E3 <| Sk 5 E3 <| Pf 6 E4 <| Sg 7 E3 <| Zl hk8 <| Run.region <| Mv 0 E3 <| Qp 1 E2 (QP.add64 rfl rfl rfl Og Og) <| Sg 2 E3 <| Sq.nil <| J.envJ (J.keep Tk1 (hl5 (i + 1) (true) (false) (⟨by omega, by rw [allC_succ hd, ← hz, c11]; rw [(u8_eq (c := 0)).1 c16]; rfl, by rw [allC_succ hd, ← hf, c18]; rfl⟩) (by omega))) ⟨rfl, rfl, rfl, rfl, trivial⟩
   ·refine Pt 6 E4 <| Sg 7 E3 <| Zl hk9 <| Run.region <| Mv 0 E3 <| J.caseB (fun c18 => ?_) (fun c18 => ?_)
    ·refine Mv 1 E3 <| Ym 2 E4 <| Yp 3 E3 (QP.indexArr rfl rfl rfl Tryz.underlying38 z5 (by omega) (by omega)) <| Yq 4 E3 (Z1 E2 g5 (bs_at x hd)) ?_
     refine Yp 5 E3 (Ze E3) <| J.caseD (fun c23 => ?_) (fun c23 => ?_)
     ·exact Pt 6 E4 <| Sg 7 E3 <| Zl hk8 <| Run.region <| Mv 0 E3 <| Qp 1 E2 (QP.add64 rfl rfl rfl Og Og) <| Sg 2 E3 <| Sq.nil <| J.envJ (J.keep Tk1 (hl5 (i + 1) (false) (true) (⟨by omega, by rw [allC_succ hd, ← hz, c11]; rw [Bool.eq_false_iff.2 (fun h => c16 ((u8_eq (c := 0)).2 h))]; rfl, by rw [allC_succ hd, ← hf, c18]; rw [(u8_eq (c := 255)).1 c23]; rfl⟩) (by omega))) ⟨rfl, rfl, rfl, rfl, trivial⟩
     ·exact Pt 6 E4 <| Sg 7 E3 <| Zl hk8 <| Run.region <| Mv 0 E3 <| Qp 1 E2 (QP.add64 rfl rfl rfl Og Og) <| Sg 2 E3 <| Sq.nil <| J.envJ (J.keep Tk1 (hl5 (i + 1) (false) (false) (⟨by omega, by rw [allC_succ hd, ← hz, c11]; rw [Bool.eq_false_iff.2 (fun h => c16 ((u8_eq (c := 0)).2 h))]; rfl, by rw [allC_succ hd, ← hf, c18]; rw [Bool.eq_false_iff.2 (fun h => c23 ((u8_eq (c := 255)).2 h))]; rfl⟩) (by omega))) ⟨rfl, rfl, rfl, rfl, trivial⟩
    ·exact Mv 1 E3 <| Sk 2 E3 <| Sk 3 E3 <| Sk 4 E3 <| Sk 5 E3 <| Pf 6 E4 <| Sg 7 E3 <| Zl hk8 <| Run.region <| Mv 0 E3 <| Qp 1 E2 (QP.add64 rfl rfl rfl Og Og) <| Sg 2 E3 <| Sq.nil <| J.envJ (J.keep Tk1 (hl5 (i + 1) (false) (false) (⟨by omega, by rw [allC_succ hd, ← hz, c11]; rw [Bool.eq_false_iff.2 (fun h => c16 ((u8_eq (c := 0)).2 h))]; rfl, by rw [allC_succ hd, ← hf, c18]; rfl⟩) (by omega))) ⟨rfl, rfl, rfl, rfl, trivial⟩
  ·refine Mv 1 E3 <| Sk 2 E3 <| Sk 3 E3 <| Sk 4 E3 <| Sk 5 E3 <| Pf 6 E4 <| Sg 7 E3 <| Zl hk9 <| Run.region <| Mv 0 E3 <| J.caseB (fun c18 => ?_) (fun c18 => ?_)
   ·refine Mv 1 E3 <| Ym 2 E4 <| Yp 3 E3 (QP.indexArr rfl rfl rfl Tryz.underlying38 z5 (by omega) (by omega)) <| Yq 4 E3 (Z1 E2 g5 (bs_at x hd)) ?_
    refine Yp 5 E3 (Ze E3) <| J.caseD (fun c23 => ?_) (fun c23 => ?_)
    ·exact Pt 6 E4 <| Sg 7 E3 <| Zl hk8 <| Run.region <| Mv 0 E3 <| Qp 1 E2 (QP.add64 rfl rfl rfl Og Og) <| Sg 2 E3 <| Sq.nil <| J.envJ (J.keep Tk1 (hl5 (i + 1) (false) (true) (⟨by omega, by rw [allC_succ hd, ← hz, c11]; rfl, by rw [allC_succ hd, ← hf, c18]; rw [(u8_eq (c := 255)).1 c23]; rfl⟩) (by omega))) ⟨rfl, rfl, rfl, rfl, trivial⟩
    ·exact Pt 6 E4 <| Sg 7 E3 <| Zl hk8 <| Run.region <| Mv 0 E3 <| Qp 1 E2 (QP.add64 rfl rfl rfl Og Og) <| Sg 2 E3 <| Sq.nil <| J.envJ (J.keep Tk1 (hl5 (i + 1) (false) (false) (⟨by omega, by rw [allC_succ hd, ← hz, c11]; rfl, by rw [allC_succ hd, ← hf, c18]; rw [Bool.eq_false_iff.2 (fun h => c23 ((u8_eq (c := 255)).2 h))]; rfl⟩) (by omega))) ⟨rfl, rfl, rfl, rfl, trivial⟩
   ·exact Mv 1 E3 <| Sk 2 E3 <| Sk 3 E3 <| Sk 4 E3 <| Sk 5 E3 <| Pf 6 E4 <| Sg 7 E3 <| Zl hk8 <| Run.region <| Mv 0 E3 <| Qp 1 E2 (QP.add64 rfl rfl rfl Og Og) <| Sg 2 E3 <| Sq.nil <| J.envJ (J.keep Tk1 (hl5 (i + 1) (false) (false) (⟨by omega, by rw [allC_succ hd, ← hz, c11]; rfl, by rw [allC_succ hd, ← hf, c18]; rfl⟩) (by omega))) ⟨rfl, rfl, rfl, rfl, trivial⟩
 ·exact Zl hk7 <| Zf <| Run.exit rfl <| hk3 _ _ <| Zs fun _ hk10 => Mv 0 E3 <| Mv 1 E3 <| Sg 2 E3 <| Sg 3 E3 <| Zl hk10 <| Run.ret <| J.ends (res_tmp2 rfl rfl rfl) Takes.nil ⟨by rw [hz, hf, show i = 8 by omega, allC_end, allC_end]; rfl, rfl⟩
end Slb
