/- Q48: a part of the proof that a law of this package holds for every input; no condition. -/
import Derived.Test.YtmolpkkkndopcaaM2
import Derived.Test.YtmolpkkkndopcaaQ47
import Derived.Test.YtmolpkkkndopcaaQ40
namespace Slb
open Go Go.Proofs
set_option maxRecDepth 20000
theorem rowsT_app {us ts : List TlvX} {p : PH} (g : stars [rowsT us, rowsT ts] p) : rowsT (us ++ ts) p := by
  obtain ⟨h1, h2, d, rfl, g1, g2⟩ := g
  unfold rowsT
  rw [List.map_append]
  exact stars_append.2 ⟨h1, h2, d, rfl, g1, stars_one.1 g2⟩
theorem err_mtu {src : Bs 16} {mtu : Int} {ts : List TlvX} (he : packErr src mtu ts = 0) : 64 ≤ mtu ∧ mtu ≤ 65539 := by
  unfold packErr at he
  split at he
  · cases he
  · omega
theorem flat_le {α : Type} (gs : List (List α)) (i : Nat) : (gs.take i).flatten.length ≤ gs.flatten.length := by
  conv => rhs; rw [← List.take_append_drop i gs]
  rw [List.flatten_append, List.length_append]
  omega
theorem flat_take {α : Type} {gs : List (List α)} {i : Nat} {q : List α} (h : gs[i]? = some q) : (gs.take (i + 1)).flatten = (gs.take i).flatten ++ q := by
  rw [take_succ_get h, List.flatten_append, List.flatten_singleton]
theorem groups_few {α : Type} : ∀ {gs : List (List α)}, (∀ q ∈ gs, q ≠ []) → gs.length ≤ gs.flatten.length
  | [], _ => Nat.le_refl _
  | q :: gs, h => by
    have h1 := groups_few (gs := gs) (fun p hp => h p (List.mem_cons_of_mem _ hp))
    have h2 : q.length ≠ 0 := fun h9 => h q (by simp) (List.length_eq_zero_iff.1 h9)
    rw [List.length_cons, List.flatten_cons, List.length_append]
    omega
/-- One of the packets, and what it says. -/
theorem group_at {src : Bs 16} {os : List SlX} {gs : List (List (Tlv × List Int))} {ps : List (List UInt8)} (hos : os.map (·.l) = ps) (hgs : ps.map (parseF src) = gs.map (fun q => (q, 0))) {i : Nat} {y : SlX} (hy : os[i]? = some y) : ∃ q, gs[i]? = some q ∧ parseF src y.l = (q, 0) ∧ y.l ∈ ps := by
  subst hos
  have h := congrArg (fun z => z[i]?) hgs
  simp only [List.getElem?_map, hy, Option.map_some] at h
  cases hq : gs[i]? with
  | none => rw [hq] at h; cases h
  | some q =>
    rw [hq] at h
    exact ⟨q, rfl, Option.some.inj h, List.mem_map_of_mem (List.mem_of_getElem? hy)⟩
theorem groups_len {src : Bs 16} {os : List SlX} {gs : List (List (Tlv × List Int))} {ps : List (List UInt8)} (hos : os.map (·.l) = ps) (hgs : ps.map (parseF src) = gs.map (fun q => (q, 0))) : gs.length = os.length := by
  subst hos
  have := congrArg List.length hgs
  simpa using this.symm

set_option maxHeartbeats 2000000 in
theorem law_back (F : Fr) (src : Bs 16) (mtu : Int) {ts : List TlvX} {a : Option Addr} {c : Nat} (ha : ArgSl F a 68 tlvE ts) (hin : ∀ x ∈ ts, TlvIn F x) (hwf : ∀ x ∈ ts, (tlvS x).WF) (hr32 : ∀ x ∈ ts, ∀ n ∈ x.l, 0 ≤ n ∧ n < 4294967296) (hnn : ts.length ≤ 9223372036854775807)  : Spec Try.prog 3 #[.agg (Bs.enc src).toArray, .int .i64 mtu, .slice a ts.length c] [] F (fun v S => v = .bool true ∧ S = []) := by
 refine Spec.intro (N := 73) (args := [.agg (Bs.enc src).toArray, .int .i64 mtu, .slice a ts.length c]) Try.func3 rfl rfl (by simp) ?_
 refine Run.seq fun k1 hk1 => Run.region ?_
 show Sq _ _ _ [0, 1] _ _ _ _
 refine Ef 0 rfl rfl (EF.boxA rfl rfl) ?_
 rintro _ _ ⟨b3, rfl, rfl⟩
 refine Sg 1 rfl rfl rfl <| Sq.nil <| hk1 _ _ <| Run.seq fun k2 hk2 => Run.seq fun k3 hk3 => Run.region ?_
 show Sq _ _ _ [0, 1] _ _ _ _
 refine Mv 0 rfl rfl rfl <| Ef 1 rfl rfl (EF.call rfl ce6 rfl Takes.nil (fun F' hle hr => huge_spec F' (ha.mono hle) hnn)) ?_
 rintro _ _ ⟨_, ⟨bh, rfl, hbh, rfl⟩, rfl⟩
 refine J.app ?_
 refine J.caseB (fun c14 => ?_) (fun c14 => ?_)
 ·refine Sq.nil <| hk3 _ _ <| Run.cond_t rfl <| Run.seq fun k4 hk4 => Run.region ?_
  show Sq _ _ _ [0, 1] _ _ _ _
  refine Ef 0 rfl rfl (EF.call rfl ce7 rfl Takes.nil (fun F' hle hr => live7_spec F')) ?_
  rintro _ _ ⟨_, ⟨rfl, rfl⟩, rfl⟩
  refine J.app ?_
  refine Sg 1 rfl rfl rfl <| Sq.nil <| hk4 _ _ <| Run.ret ?_
  exact J.ends (res_tmp rfl rfl) Takes.nil ⟨rfl, rfl⟩
 ·refine Sq.nil <| hk3 _ _ <| Run.cond_f rfl <| Run.skip <| hk2 _ _ <| Run.seq fun k5 hk5 => Run.region ?_
  show Sq _ _ _ [0, 1, 2, 3, 4, 5, 6, 7, 8] _ _ _ _
  have hbl := (hbh c14).1
  refine Qq 0 rfl rfl (QR.load rfl rfl g23 (Bs.sub _)) ?_
  refine Mv 1 rfl rfl rfl <| Mv 2 rfl rfl rfl <| Ef 3 rfl rfl (EF.call rfl ce8 rfl Takes.nil (fun F' hle hr => pack_spec F' src (mtu := mtu) (ha.mono hle) (fun x hx => TlvIn.mono (hin x hx) hle) hwf hr32 (by omega))) ?_
  rintro _ _ ⟨_, ⟨os, oa, oc, rfl, hos, rfl⟩, rfl⟩
  refine J.app ?_
  refine Mv 4 rfl rfl rfl <| Qp 5 rfl rfl (QP.extract rfl rfl rfl) <| Qp 6 rfl rfl (QP.extract rfl rfl rfl) <| Sg 7 rfl rfl rfl <| Sg 8 rfl rfl rfl <| Sq.nil <| hk5 _ _ <| Run.seq fun k6 hk6 => Run.seq fun k7 hk7 => Run.region ?_
  show Sq _ _ _ [0, 1, 2] _ _ _ _
  refine Mv 0 rfl rfl rfl <| Ef 1 rfl rfl (EF.call rfl ce9 rfl Takes.nil (fun F' hle hr => num7_spec F' _)) ?_
  rintro _ _ ⟨_, ⟨rfl, rfl⟩, rfl⟩
  refine J.app ?_
  refine Qp 2 rfl rfl (QP.neq rfl rfl rfl) <| J.caseD (fun c25 => ?_) (fun c25 => ?_)
  ·refine Sq.nil <| hk7 _ _ <| Run.cond_t rfl <| Run.seq fun k8 hk8 => Run.region ?_
   show Sq _ _ _ [0, 1, 2, 3, 4, 5, 6] _ _ _ _
   have hnil : os = [] := by unfold packF at hos; rw [if_pos c25] at hos; exact List.map_eq_nil_iff.1 hos
   refine Mv 0 rfl rfl rfl <| Qp 1 rfl rfl (QP.len rfl rfl rfl Try.underlying27) <| Qp 2 rfl rfl (QP.eql rfl rfl rfl) <| J.decT (by rw [hnil]; rfl) ?_
   refine Mv 3 rfl rfl rfl <| Ye 4 rfl rfl rfl (EF.call rfl ce7 rfl Takes.nil (fun F' hle hr => live7_spec F')) ?_
   rintro _ _ ⟨_, ⟨rfl, rfl⟩, rfl⟩
   refine J.app ?_
   refine Pt 5 rfl rfl rfl rfl <| Sg 6 rfl rfl rfl <| Sq.nil <| hk8 _ _ <| Run.ret ?_
   exact J.ends (res_tmp rfl rfl) Takes.nil ⟨rfl, rfl⟩
  ·refine Sq.nil <| hk7 _ _ <| Run.cond_f rfl <| Run.skip <| hk6 _ _ <| Run.seq fun k9 hk9 => Run.region ?_
   show Sq _ _ _ [0] _ _ _ _
   have hpe : packErr src mtu ts = 0 := Decidable.of_not_not c25
   obtain ⟨hmt1, hmt2⟩ := err_mtu hpe
   obtain ⟨gs, hgs, hgf, hgn, hgl, _⟩ := back_law hpe hwf hr32
   have hgo := groups_len hos hgs
   have hol : os.length ≤ 200 := by have h9 := groups_few hgn; rw [hgf, List.length_map] at h9; omega
   refine Sq.slCase (v := .slice oa os.length oc) (xs := os) Rc (fun aq cq hvq hhq => ?_)
   cases hvq
   refine J.addSl 46 68 tlvE ?_
   refine J.addTlvs ?_
   refine Sg 0 rfl rfl rfl <| Sq.nil <| hk9 _ _ <| Run.seq fun k10 hk10 => Run.seq fun k11 hk11 => Run.region ?_
   show Sq _ _ _ [0] _ _ _ _
   refine Sg 0 rfl rfl rfl <| Sq.nil <| hk11 _ _ <| Run.block <| Run.loop3 (fun (i : Nat) (us : List TlvX) (vb : Value) => i ≤ os.length ∧ us.map tlvM = (gs.take i).flatten) (fun i us vb => .cons 1 (.int .i64 mtu) (.cons 2 (.slice a ts.length c) (.cons 3 (fp b3) (.cons 7 (.slice oa os.length oc) (.cons 9 (vb) (.cons 10 (.int .i64 i) (.nil))))))) (fun i us vb => [blk b3 (Bs.enc src) 23, slA 34 1 slE (.slice oa os.length oc) os, rowsS os, slA 46 68 tlvE vb us, rowsT us]) (fun i us vb => os.length - i) (0) ([]) (.slice none 0 0) (⟨Nat.zero_le _, rfl⟩) ?_ ?_
   ·exact fun _ j => J.envJ (J.keep Tk5 j) ⟨rfl, rfl, rfl, rfl, rfl, rfl, trivial⟩
   rintro i us vb ⟨hile, hus⟩ kl12 hl12
   refine Run.seq fun k13 hk13 => Run.seq fun k14 hk14 => Run.region ?_
   show Sq _ _ _ [0, 1, 2, 3] _ _ _ _
   refine Mv 0 rfl rfl rfl <| Mv 1 rfl rfl rfl <| Qp 2 rfl rfl (QP.len rfl rfl rfl Try.underlying27) <| Qp 3 rfl rfl (QP.lss rfl rfl rfl) <| J.caseD (fun c35 => ?_) (fun c35 => ?_)
   ·refine Sq.nil <| hk14 _ _ <| Run.cond_t rfl <| Run.skip <| hk13 _ _ <| Run.seq fun k15 hk15 => Run.block <| Run.seq fun k16 hk16 => Run.regionM (M := [0, 0, 0, 6, 14, 31, 63, 127, 127, 255, 1023]) (q := 479) (r := 17) mixedT Kr ?_
    obtain ⟨y, hiy⟩ : ∃ y, os[i]? = some y := ⟨_, List.getElem?_eq_getElem (by omega)⟩
    obtain ⟨bq, oq, rfl⟩ := hhq.get (by omega)
    have hmy : y ∈ os := List.mem_of_getElem? hiy
    obtain ⟨q, hq, hpq, hyp⟩ := group_at hos hgs hiy
    have hyn := y.h
    have hyl := hgl y.l hyp
    refine Dr 0 rfl rfl (QR.load rfl rfl g23 (Bs.sub _)) ?_
    refine Dp 1 rfl rfl (QP.move rfl rfl) <| Dp 2 rfl rfl (QP.move rfl rfl) <| Dp 3 rfl rfl (QP.indexAddr rfl rfl rfl Try.underlying27 z34 Og Og) <| Dr 4 rfl rfl (QR.loadSl1 (ev := fun y : SlX => Value.slice y.a y.n y.c) rfl rfl g34 (SlAt.own (fun _ => rfl) Rc) hiy) ?_
    refine De 5 <| Om [] rfl rfl (EF.call rfl ce10 rfl Tk1 (fun F' hle hr => parse_held F' src hmy (by have := hgl y.l hyp; omega))) ?_
    rintro _ _ ⟨_, ⟨ts1, va, rfl, hm1, rfl⟩, rfl⟩
    refine ⟨fun _ h => (by cases h), ?_⟩
    refine J.app ?_
    refine Dp 6 rfl rfl (QP.move rfl rfl) ?_
    rw [hpq]
    rw [hpq] at hm1
    refine Dp 7 rfl rfl (QP.extract rfl rfl rfl) <| Dp 8 rfl rfl (QP.extract rfl rfl rfl) <| De 9 <| Om [] rfl rfl ((QP.assign rfl rfl).eff) ?_
    rintro va _ ⟨rfl, rfl⟩
    refine ⟨fun _ h => (by cases h), ?_⟩
    refine De 10 <| Om [] rfl rfl ((QP.assign rfl rfl).eff) ?_
    rintro _ _ ⟨rfl, rfl⟩
    refine ⟨fun _ h => (by cases h), ?_⟩
    refine Dn <| hk16 _ _ <| Run.seq fun k17 hk17 => Run.seq fun k18 hk18 => Run.region ?_
    show Sq _ _ _ [0, 1, 2, 3, 4, 5, 6, 7, 8, 9, 10, 11, 12, 13, 14, 15, 16] _ _ _ _
    refine Sq.slCase (v := va) (xs := ts1) Rc (fun ap1 cp1 hvp1 hhp1 => ?_)
    subst hvp1
    have hus2 : (us ++ ts1).map tlvM = (gs.take (i + 1)).flatten := by rw [List.map_append, hus, hm1, flat_take hq]
    have hul : us.length + ts1.length ≤ 200 := by have h9 := congrArg List.length hus2; rw [List.length_map, List.length_append] at h9; have h8 := flat_le gs (i + 1); rw [hgf, List.length_map] at h8; omega
    refine Mv 0 rfl rfl rfl <| Ef 1 rfl rfl (EF.call rfl ce9 rfl Takes.nil (fun F' hle hr => num7_spec F' _)) ?_
    rintro _ _ ⟨_, ⟨rfl, rfl⟩, rfl⟩
    refine J.app ?_
    refine Qp 2 rfl rfl (QP.neq rfl rfl rfl) <| Mv 3 rfl rfl rfl <| Ym 4 rfl rfl rfl rfl <| Ym 5 rfl rfl rfl rfl <| Yp 6 rfl rfl rfl (QP.indexAddr rfl rfl rfl Try.underlying27 z34 Og Og) <| Yq 7 rfl rfl rfl (QR.loadSl1 (ev := fun y : SlX => Value.slice y.a y.n y.c) rfl rfl g34 (SlAt.own (fun _ => rfl) Rc) hiy) ?_
    refine Yp 8 rfl rfl rfl (QP.len rfl rfl rfl Try.underlying34) <| Ym 9 rfl rfl rfl rfl <| Yp 10 rfl rfl rfl (QP.gtr rfl rfl rfl) <| J.decF (by omega) ?_
    refine Pf 11 rfl rfl rfl rfl <| Mv 12 rfl rfl rfl <| Ym 13 rfl rfl rfl rfl <| Yp 14 rfl rfl rfl (QP.len rfl rfl rfl Try.underlying24) <| Yp 15 rfl rfl rfl (QP.eql rfl rfl rfl) <| J.decF (by have h9 := congrArg List.length hm1; rw [List.length_map] at h9; have h8 : q.length ≠ 0 := fun h7 => hgn q (List.mem_of_getElem? hq) (List.length_eq_zero_iff.1 h7); have h9b : ts1.length = q.length := h9; omega) ?_
    refine Pf 16 rfl rfl rfl rfl <| Sq.nil <| hk18 _ _ <| Run.cond_f rfl <| Run.skip <| hk17 _ _ <| Run.region ?_
    show Sq _ _ _ [0, 1, 2, 3] _ _ _ _
    refine Mv 0 rfl rfl rfl <| Mv 1 rfl rfl rfl <| Ef 2 rfl rfl (EF.append (xs := us) (ys := ts1) el46 tlvE_len (fun _ => Tlv.enc_cell _) rfl rfl rfl Try.underlying24 Try.underlying24 rfl rfl Rc (RowsAt.ownH (e := 46) tlvE_len hhp1 (by repeat (first | exact List.Mem.head _ | apply List.Mem.tail))) (by omega)) ?_
    rintro sl66 _ rfl
    refine Sg 3 rfl rfl rfl <| Sq.nil <| hk15 _ _ <| Run.region ?_
    show Sq _ _ _ [0, 1, 2] _ _ _ _
    refine Mv 0 rfl rfl rfl <| Qp 1 rfl rfl (QP.add64 rfl rfl rfl Og Og) <| Sg 2 rfl rfl rfl <| Sq.nil <| J.close (A := rowsT (us ++ ts1)) (m := [rowsT us, rowsT ts1]) Tk2 (fun _ q => rowsT_app q) ?_
    exact J.envJ (J.keep Tk5 (hl12 (i + 1) (us ++ ts1) (sl66) (⟨by omega, hus2⟩) (by omega))) ⟨rfl, rfl, rfl, rfl, rfl, rfl, trivial⟩
   ·refine Sq.nil <| hk14 _ _ <| Run.cond_f rfl <| Run.exit rfl ?_
    refine hk10 _ _ <| Run.seq fun k19 hk19 => Run.region ?_
    show Sq _ _ _ [0, 1, 2, 3, 4, 5, 6] _ _ _ _
    refine Sq.slCase (v := vb) (xs := us) Rc (fun ab cb hvb hhb => ?_)
    subst hvb
    have hut : us.map tlvM = ts.map tlvM := by rw [hus, List.take_of_length_le (by omega), hgf]
    have hulen : us.length = ts.length := by have h9 := congrArg List.length hut; simpa using h9
    refine Mv 0 rfl rfl rfl <| Mv 1 rfl rfl rfl <| Ef 2 rfl rfl (EF.call rfl ce11 rfl Tk2 (fun F' hle hr => samesG F' [slA 46 68 tlvE (.slice ab us.length cb) us, rowsT us] (a1 := ab) (c1 := cb) (xs := us) (a2 := a) (ys := ts) rfl (by simp) (by simp) (by omega) (fun x hx => by obtain ⟨z, hz, he⟩ := tl_mem hut hx; have h9 := (hbh c14).2 z hz; rw [show z.l = x.l from congrArg Prod.snd he] at h9; omega) (fun F2 q h0 h1 h2 => ⟨ha.mono (hle.trans h0), fun z hz => TlvIn.mono (hin z hz) (hle.trans h0)⟩))) ?_
    rintro _ _ ⟨_, ⟨bb, rfl, hbb, rfl⟩, rfl⟩
    refine J.app ?_
    refine J.boolT (hbb.2 hut) ?_
    refine Mv 3 rfl rfl rfl <| Ye 4 rfl rfl rfl (EF.call rfl ce7 rfl Takes.nil (fun F' hle hr => live7_spec F')) ?_
    rintro _ _ ⟨_, ⟨rfl, rfl⟩, rfl⟩
    refine J.app ?_
    refine Pt 5 rfl rfl rfl rfl <| Sg 6 rfl rfl rfl <| Sq.nil <| hk19 _ _ <| Run.ret ?_
    exact J.ends (res_tmp rfl rfl) Takes.nil ⟨rfl, rfl⟩
end Slb
