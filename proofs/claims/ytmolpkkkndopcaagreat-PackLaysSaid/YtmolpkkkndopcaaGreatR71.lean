/- R71: a part of the proof that a law of this package holds for every input; no condition. -/
import Derived.Test.YtmolpkkkndopcaaGreatM2
import Derived.Test.YtmolpkkkndopcaaGreatR70
namespace Slb
open Go Go.Proofs
set_option maxRecDepth 20000
theorem packs_same {os ps : List SlX} {l : List (List UInt8)} (h1 : os.map (·.l) = l) (h2 : ps.map (·.l) = l) : decide (os.map (·.l) = ps.map (·.l)) = true := decide_eq_true (h1.trans h2.symm)
theorem pk_few (src : Bs 16) (mtu : Int) (ps : List (Tlv × List Int)) : ∀ s : PackTold × List UInt8 × List (List UInt8), (ps.foldl (pkStep src mtu) s).2.2.length ≤ s.2.2.length + ps.length := by
  induction ps with
  | nil => intro s; simp
  | cons p ps ih =>
    intro s
    have h1 := ih (pkStep src mtu s p)
    have h2 : (pkStep src mtu s p).2.2.length ≤ s.2.2.length + 1 := by
      unfold pkStep
      split
      · show s.2.2.length ≤ _; omega
      · simp
    simp only [List.foldl_cons, List.length_cons]
    omega
theorem packF_few (src : Bs 16) (mtu : Int) (ts : List TlvX) : (packF src mtu ts).length ≤ ts.length + 1 := by
  unfold packF
  split
  · simp
  · unfold flushF
    split
    · simp
    · have h := pk_few src mtu (ts.map tlvM) (toldB src, [], [])
      simp only [List.length_map, List.length_nil] at h
      rw [List.length_append, List.length_singleton]
      unfold pkRun
      omega

set_option maxHeartbeats 1000000 in
theorem law_lays (F : Fr) (src : Bs 16) (mtu : Int) {ts : List TlvX} {a : Option Addr} {c : Nat} (ha : ArgSl F a 68 tlvE ts) (hin : ∀ x ∈ ts, TlvIn F x) (hwf : ∀ x ∈ ts, (tlvS x).WF) (hr32 : ∀ x ∈ ts, ∀ n ∈ x.l, 0 ≤ n ∧ n < 4294967296) (hnn : ts.length ≤ 9223372036854775807)  : Spec Tryz.prog 3 #[.agg (Bs.enc src).toArray, .int .i64 mtu, .slice a ts.length c] [] F (fun v S => v = .bool true ∧ S = []) := by
 refine Spec.intro (N := 68) (args := [.agg (Bs.enc src).toArray, .int .i64 mtu, .slice a ts.length c]) Tryz.func3 rfl rfl (by simp) ?_
 refine Zs fun _ hk1 => Ef 0 E2 (EF.boxA rfl rfl) ?_
 rintro _ _ ⟨b3, rfl, rfl⟩
 refine Sg 1 E3 <| Zl hk1 <| Run.seq fun _ hk2 => Zs fun _ hk3 => Mv 0 E3 <| Ef 1 E2 (EF.call rfl ce5 rfl Takes.nil (fun F' hle hr => huge_spec F' (ha.mono hle) hnn)) ?_
 rintro _ _ ⟨_, ⟨bh, rfl, hbh, rfl⟩, rfl⟩
 refine J.app <| J.caseB (fun c14 => ?_) (fun c14 => ?_)
 ·refine Zl hk3 <| Run.cond_t rfl <| Zs fun _ hk4 => Ef 0 E2 (EF.call rfl ce6 rfl Takes.nil (fun F' hle hr => live7_spec F')) ?_
  rintro _ _ ⟨_, ⟨rfl, rfl⟩, rfl⟩
  exact J.app <| Sg 1 E3 <| Zl hk4 <| Run.ret <| J.ends (res_tmp rfl rfl) Takes.nil ⟨rfl, rfl⟩
 ·refine Zl hk3 <| Run.cond_f rfl <| Run.skip <| hk2 _ _ <| Run.seq fun _ hk5 => Run.regionM (M := [0, 0, 0, 0, 12, 31, 63, 127, 127, 255, 1023]) (q := 459) (r := 1) mixedT Kr ?_
  obtain ⟨hbl, hbs⟩ := hbh c14
  refine Dr 0 E2 (Z0 E2 g23 (Bs.sub _)) ?_
  refine Dp 1 E2 (Zm E2) <| Dp 3 E2 (Zm E2) <| De 2 <| Om [0] rfl rfl (EF.buildSlice0 (enc := tlvE) rfl Tryz.underlying24 z45 zero45 (by simp [Value.cells, Tlv.enc_len]) (by decide)) ?_
  rintro _ _ ⟨b19, rfl, rfl⟩
  refine ⟨?_, ?_⟩
  ·rw [List.forall_mem_cons]
   refine ⟨?_, fun _ h => (by cases h)⟩
   ·exact Look.mk rfl rfl rfl (Z0 E2 g23 (Bs.sub _))
  refine ?_
  refine De 4 <| Om [0] rfl rfl (EF.appendArg (xs := []) (ys := ts) (enc := tlvE) el45 tlvE_len (fun _ => Tlv.enc_cell _) rfl rfl rfl Tryz.underlying24 Tryz.underlying24 rfl rfl Rc ha (by simp; omega)) ?_
  rintro sl21 _ rfl
  refine ⟨?_, ?_⟩
  ·rw [List.forall_mem_cons]
   refine ⟨?_, fun _ h => (by cases h)⟩
   ·exact Look.mk rfl rfl rfl (Z0 E2 g23 (Bs.sub _))
  refine ?_
  rw [List.nil_append]
  refine Dw.slCase (v := sl21) (xs := ts) Rc (fun a21 c21 hv21 hh21 => ?_)
  subst hv21
  refine De 5 <| Om [] rfl rfl (EF.call rfl ce7 rfl Tk1 (fun F' hle hr => Spec.lendSl (e := 45) (z := 68) (enc := tlvE) (xs := ts) tlvE_len (fun F2 hle2 hb2 => pack_spec F2 src (mtu := mtu) hb2 (fun x hx => TlvIn.mono (hin x hx) (hle.trans hle2)) hwf hr32 (by omega)))) ?_
  rintro _ _ ⟨_, ⟨_, ⟨os, oa, oc, rfl, hos, rfl⟩, rfl⟩, rfl⟩
  refine ⟨fun _ h => (by cases h), ?_⟩
  refine J.app <| Dp 6 E2 (Zm E2) <| Dp 7 E2 (Zx E3) <| Dp 8 E2 (Zx E3) <| De 9 <| Om [] rfl rfl ((Zg E2).eff) ?_
  rintro _ _ ⟨rfl, rfl⟩
  refine ⟨fun _ h => (by cases h), ?_⟩
  refine De 10 <| Om [] rfl rfl ((Zg E2).eff) ?_
  rintro _ _ ⟨rfl, rfl⟩
  refine ⟨fun _ h => (by cases h), ?_⟩
  refine Dn <| hk5 _ _ <| Zs fun _ hk6 => Qq 0 E2 (Z0 E2 g23 (Bs.sub _)) ?_
  refine Mv 1 E3 <| Mv 2 E3 <| Ef 3 E2 (EF.call rfl ce8 rfl Takes.nil (fun F' hle hr => rpack_spec F' src (mtu := mtu) (ha.mono hle) (fun x hx => TlvIn.mono (hin x hx) hle) hwf hr32 (by omega) (fun x hx => by have := hbs x hx; omega))) ?_
  rintro _ _ ⟨_, ⟨ps, pa, pc, rfl, hps, rfl⟩, rfl⟩
  refine J.app <| Mv 4 E3 <| Qp 5 E2 (Zx E3) <| Qp 6 E2 (Zx E3) <| Sg 7 E3 <| Sg 8 E3 <| Zl hk6 <| Run.seq fun _ hk7 => Zs fun _ hk8 => Mv 0 E3 <| Mv 1 E3 <| Ef 2 E2 (EF.call rfl ce9 rfl Tk4 (fun F' hle hr => rsame7_lent F' (os := os) (ps := ps) (oa := oa) (pa := pa) (oc := oc) (pc := pc) (by have h9 := congrArg List.length hos; rw [List.length_map] at h9; have h8 := packF_few src mtu ts; omega))) ?_
  rintro _ _ ⟨_, ⟨rfl, rfl⟩, rfl⟩
  refine J.app <| J.boolT (packs_same hos hps) ?_
  refine Qp 3 E2 (Zu E2) <| Mv 4 E3 <| Ym 5 E4 <| Ye 6 E3 (EF.call rfl ce10 rfl Takes.nil (fun F' hle hr => num7_spec F' _)) ?_
  rintro _ _ ⟨_, ⟨rfl, rfl⟩, rfl⟩
  refine J.app <| Ym 7 E4 <| Yp 8 E3 (Zq E3) <| J.decF (by simp) ?_
  refine Pf 9 E4 <| Zl hk8 <| Run.cond_f rfl <| Run.skip <| hk7 _ _ <| Run.seq fun _ hk9 => Run.seq fun _ hk10 => Run.region ?_
  have hdummy : True := trivial
  refine Sg 0 E3 <| Zl hk10 <| Run.block <| Run.loop1 (fun (i : Nat) => i ≤ ts.length) (fun i => .cons 2 (.slice a ts.length c) (.cons 11 (.int .i64 i) (.nil))) (fun i => []) (fun i => ts.length - i) (0) (Nat.zero_le _) ?_ ?_
  ·exact fun _ j => J.envJ (J.keep Takes.nil j) ⟨rfl, rfl, trivial⟩
  rintro i hile kl11 hl11
  refine Run.seq fun _ hk12 => Zs fun _ hk13 => Mv 0 E3 <| Mv 1 E3 <| Qp 2 E2 (QP.len rfl rfl rfl Tryz.underlying24) <| Qp 3 E2 (Zb E3) <| J.caseD (fun c45 => ?_) (fun c45 => ?_)
  ·refine Zl hk13 <| Run.cond_t rfl <| Run.skip <| hk12 _ _ <| Run.seq fun _ hk14 => Run.block <| Zs fun _ hk15 => Sg 0 E3 <| Zl hk15 <| Run.seq fun _ hk16 => Run.seq fun _ hk17 => Run.region ?_
   obtain ⟨x, hi⟩ : ∃ x, ts[i]? = some x := ⟨_, List.getElem?_eq_getElem (by omega)⟩
   obtain ⟨q1, o1, rfl, hs1⟩ := ha.get (by omega)
   have hm := List.mem_of_getElem? hi
   refine Mv 0 E3 <| Mv 1 E3 <| Qp 2 E2 (QP.indexAddr rfl rfl rfl Tryz.underlying24 z45 Og Og) <| Qq 3 E2 (QR.loadSl (y := x) rfl rfl g45 tlvE_len (hs1 _) hi) ?_
   refine Ef 4 E2 (EF.call rfl ce11 rfl Takes.nil (fun F' hle hr => rchk_spec F' x (TlvIn.mono (hin x hm) hle) (by have := hbs x hm; omega))) ?_
   rintro _ _ ⟨_, ⟨rfl, rfl⟩, rfl⟩
   refine J.app <| Qp 5 E2 (Ze E3) <| J.caseD (fun c53 => ?_) (fun c53 => ?_)
   ·refine Zl hk17 <| Run.cond_t rfl <| Run.region <| Mv 0 E3 <| Mv 1 E3 <| Qp 2 E2 (QP.indexAddr rfl rfl rfl Tryz.underlying24 z45 Og Og) <| Qq 3 E2 (QR.loadSl (y := x) rfl rfl g45 tlvE_len (hs1 _) hi) ?_
    refine Ef 4 E2 (EF.call rfl ce12 rfl Takes.nil (fun F' hle hr => rpiece_spec F' x (hwf x hm) (TlvIn.mono (hin x hm) hle) (chk_facts c53).1 (hr32 x hm) (chk_facts c53).2.1 (chk_pairs c53).1 (chk_pairs c53).2 (chk_type c53))) ?_
    rintro v58 _ ⟨_, rfl, rfl⟩
    refine J.app <| Sq.slCase (v := v58) (xs := (pieceF (tlvS x) x.l)) Rc (fun a58 c58 hv58 hh58 => ?_)
    subst hv58
    refine Qp 5 E2 (QP.len rfl rfl rfl Tryz.underlying46) <| Sg 6 E3 <| Zl hk16 <| Zs fun _ hk18 => Mv 0 E3 <| Mv 1 E3 <| Qp 2 E2 (QP.indexAddr rfl rfl rfl Tryz.underlying24 z45 Og Og) <| Qq 3 E2 (QR.loadSl (y := x) rfl rfl g45 tlvE_len (hs1 _) hi) ?_
    refine Ef 4 E2 (EF.call rfl ce13 rfl Takes.nil (fun F' hle hr => size_spec F' x (hwf x hm) (TlvIn.mono (hin x hm) hle) (hr32 x hm))) ?_
    rintro _ _ ⟨_, ⟨rfl, rfl⟩, rfl⟩
    refine J.app <| Mv 5 E3 <| Qp 6 E2 (Zq E3) <| J.decF (by have hz : (sizeF (tlvS x) x.l) = (pieceF (tlvS x) x.l).length := (by unfold sizeF; rw [if_neg (by rw [c53]; decide)]); rw [hz]; simp) ?_
    exact Zl hk18 <| Run.cond_f rfl <| Run.skip <| hk14 _ _ <| Run.region <| Mv 0 E3 <| Qp 1 E2 (QP.add64 rfl rfl rfl Og Og) <| Sg 2 E3 <| Sq.nil <| J.envJ (J.keep Takes.nil (hl11 (i + 1) (by omega) (by omega))) ⟨rfl, rfl, trivial⟩
   ·refine Zl hk17 <| Run.cond_f rfl <| Run.skip <| hk16 _ _ <| Zs fun _ hk19 => Mv 0 E3 <| Mv 1 E3 <| Qp 2 E2 (QP.indexAddr rfl rfl rfl Tryz.underlying24 z45 Og Og) <| Qq 3 E2 (QR.loadSl (y := x) rfl rfl g45 tlvE_len (hs1 _) hi) ?_
    refine Ef 4 E2 (EF.call rfl ce13 rfl Takes.nil (fun F' hle hr => size_spec F' x (hwf x hm) (TlvIn.mono (hin x hm) hle) (hr32 x hm))) ?_
    rintro _ _ ⟨_, ⟨rfl, rfl⟩, rfl⟩
    refine J.app <| Mv 5 E3 <| Qp 6 E2 (Zq E3) <| J.decF (by have hz : (sizeF (tlvS x) x.l) = 0 := (by unfold sizeF; rw [if_pos c53]); rw [hz]; simp) ?_
    exact Zl hk19 <| Run.cond_f rfl <| Run.skip <| hk14 _ _ <| Run.region <| Mv 0 E3 <| Qp 1 E2 (QP.add64 rfl rfl rfl Og Og) <| Sg 2 E3 <| Sq.nil <| J.envJ (J.keep Takes.nil (hl11 (i + 1) (by omega) (by omega))) ⟨rfl, rfl, trivial⟩
  ·refine Zl hk13 <| Run.cond_f rfl <| Run.exit rfl <| hk9 _ _ <| Zs fun _ hk20 => Ef 0 E2 (EF.call rfl ce6 rfl Takes.nil (fun F' hle hr => live7_spec F')) ?_
   rintro _ _ ⟨_, ⟨rfl, rfl⟩, rfl⟩
   exact J.app <| Sg 1 E3 <| Zl hk20 <| Run.ret <| J.ends (res_tmp rfl rfl) Takes.nil ⟨rfl, rfl⟩
end Slb
