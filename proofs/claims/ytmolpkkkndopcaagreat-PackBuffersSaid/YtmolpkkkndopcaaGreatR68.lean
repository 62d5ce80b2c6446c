/- R68: a part of the proof that a law of this package holds for every input; no condition. -/
import Derived.Test.YtmolpkkkndopcaaGreatM2
import Derived.Test.YtmolpkkkndopcaaGreatR67
namespace Slb
open Go Go.Proofs
set_option maxRecDepth 20000
theorem chk_pairs {t : Tlv} (h : checkF t = 0) : checkB t.pair.dst = true ∧ checkB t.pair.src = true := by
  by_cases hp : pairedB t = true
  · have h4 := (chk_own h).2.2.2.1 hp
    unfold checkPairB at h4
    simp only [Bool.and_eq_true] at h4
    exact h4.1
  · have hn : t.pair = (ownF t).1.pair := congrArg Tlv.pair (a₁ := norm t) (a₂ := norm (ownF t).1) (sameB_iff.1 (chk_own h).2.2.1)
    have hz : (ownB t).pair = Pair.zero := if_neg hp
    have he : (ownF t).1.pair = Pair.zero := by
      unfold ownF
      repeat' split
      all_goals exact hz
    rw [hn, he]
    exact ⟨by kernel_rfl, by kernel_rfl⟩
theorem chk_type {t : Tlv} (h : checkF t = 0) : t.type = 2 ∨ t.type = 3 ∨ t.type = 4 ∨ t.type = 5 ∨ t.type = 8 ∨ t.type = 9 ∨ t.type = 10 := by
  obtain ⟨h1, _⟩ := chk_own h
  unfold ownF at h1
  repeat' (first | omega | split at h1)
  all_goals first | omega | cases h1

set_option maxHeartbeats 800000 in
theorem radd_spec (F : Fr) (x : TlvX) (hw : (tlvS x).WF) (hx : TlvIn F x) (hr32 : ∀ n ∈ x.l, 0 ≤ n ∧ n < 4294967296) (hc0 : checkF (tlvS x) = 0) {b0 bs : Nat} {td : PackTold} {oa : Option Addr} {oc : Nat} {l : List UInt8} {mtu : Int} (hm1 : 0 ≤ mtu) (hm2 : mtu ≤ 1000000) (hl : l.length ≤ 1000000)  : Spec Tryz.prog 22 #[.pointer (some ⟨b0, 0, none⟩), .agg (Tlv.enc (tlvS x)).toArray, .int .i64 mtu] [blk b0 (Ref07Open.enc ⟨⟨oa, l.length, oc⟩, some ⟨bs, 0, none⟩⟩) 69, slA 5 1 bytE (.slice oa l.length oc) l, blk bs (Ref06State.enc (stF td)) 117] F (fun v S => ∃ (a2 : Option Addr) (c2 bs2 : Nat), v = .bool (addR td (tlvS x) x.l l mtu).2.2 ∧ S = [blk b0 (Ref07Open.enc ⟨⟨a2, (addR td (tlvS x) x.l l mtu).2.1.length, c2⟩, some ⟨bs2, 0, none⟩⟩) 69, slA 5 1 bytE (.slice a2 (addR td (tlvS x) x.l l mtu).2.1.length c2) (addR td (tlvS x) x.l l mtu).2.1, blk bs2 (Ref06State.enc (stF (addR td (tlvS x) x.l l mtu).1)) 117]) := by
 have hpl := piece_len (tlvS x) (chk_facts hc0).1
 have hal := ahead_len td (tlvS x)
 refine Spec.intro (N := 44) (args := [.pointer (some ⟨b0, 0, none⟩), .agg (Tlv.enc (tlvS x)).toArray, .int .i64 mtu]) Tryz.func22 rfl rfl (by simp) ?_
 refine Zs fun _ hk1 => Ef 0 E2 (EF.boxA rfl rfl) ?_
 rintro _ _ ⟨b4, rfl, rfl⟩
 refine Sg 1 E3 <| Zl hk1 <| Zs fun _ hk2 => Mv 0 E3 <| Qq 1 E2 (Z0 E2 g45 (Tlv.enc_sub _)) ?_
 refine Ef 2 E2 (EF.call rfl ce47 rfl Tk2 (fun F' hle hr => front_spec F' (t := (tlvS x)) (td := td) hc0)) ?_
 rintro _ _ ⟨_, ⟨v13, rfl, rfl⟩, rfl⟩
 refine J.app <| Mv 3 E3 <| Qp 4 E2 (Zx E3) <| Qp 5 E2 (Zx E3) <| Ef 6 E2 (EF.allocA (l := Ref06State.enc Ref06State.zero) rfl zero117) ?_
 rintro _ _ ⟨b8, rfl, rfl⟩
 refine Sg 7 E3 <| Ac 8 rfl (EF.storeA rfl rfl rfl z117 (SetL.all (Ref06State.enc_len _) (Ref06State.enc_len _)) (Ref06State.enc_cell _)) ?_
 rintro _ _ rfl
 refine Zl hk2 <| Zs fun _ hk3 => Mv 0 E3 <| Qq 1 E2 (Z0 E2 g45 (Tlv.enc_sub _)) ?_
 refine Ef 2 E2 (EF.call rfl ce12 rfl Takes.nil (fun F' hle hr => rpiece_spec F' x hw (TlvIn.mono hx hle) (chk_facts hc0).1 hr32 (chk_facts hc0).2.1 (chk_pairs hc0).1 (chk_pairs hc0).2 (chk_type hc0))) ?_
 rintro v17 _ ⟨_, rfl, rfl⟩
 refine J.app <| Sq.slCase (v := v17) (xs := (pieceF (tlvS x) x.l)) Rc (fun a17 c17 hv17 hh17 => ?_)
 subst hv17
 refine Ef 3 E2 (EF.append (xs := (ahead td (tlvS x)).2) (ys := pieceF (tlvS x) x.l) (enc := bytE) el5 (fun _ => rfl) (fun _ => cell_one rfl) rfl rfl rfl Tryz.underlying46 Tryz.underlying46 rfl rfl Rc (RowsAt.ownH (e := 5) (fun _ => rfl) hh17 (by repeat (first | exact List.Mem.head _ | apply List.Mem.tail))) (by omega)) ?_
 rintro sl18 _ rfl
 refine Sq.slCase (v := sl18) (xs := ((ahead td (tlvS x)).2 ++ pieceF (tlvS x) x.l)) Rc (fun a18 c18 hv18 hh18 => ?_)
 subst hv18
 have hAL : ((ahead td (tlvS x)).2 ++ pieceF (tlvS x) x.l).length ≤ 100 := by simp only [List.length_append]; omega
 refine Sg 4 E3 <| Zl hk3 <| Run.seq fun _ hk4 => Zs fun _ hk5 => Mv 0 E3 <| Qp 1 E2 (Zn E2) <| Fa 2 E3 f69_0 <| Qq 3 E2 (QR.load1 (v := .slice oa l.length oc) rfl rfl g46 (Ref07Open.sub_b _)) ?_
 refine Qp 4 E2 (QP.len rfl rfl rfl Tryz.underlying46) <| Mv 5 E3 <| Qp 6 E2 (QP.len rfl rfl rfl Tryz.underlying46) <| Qp 7 E2 (QP.add64 rfl rfl rfl Og Og) <| Qp 8 E2 (QP.add64 rfl rfl rfl Og Og) <| Mv 9 E3 <| Qp 10 E2 (QP.gtr rfl rfl rfl) <| J.caseD (fun c29 => ?_) (fun c29 => ?_)
 ·refine Zl hk5 <| Zt <| Zs fun _ hk6 => Sg 0 E3 <| Zl hk6 <| Run.ret ?_
  have hR : (addR td (tlvS x) x.l l mtu) = (td, l, false) := by unfold addR; rw [if_neg (show ¬ (l.length : Int) + (addL td (tlvS x) x.l).length + 4 ≤ mtu by show ¬ (l.length : Int) + ((ahead td (tlvS x)).2 ++ pieceF (tlvS x) x.l).length + 4 ≤ mtu; omega)]
  rw [hR]
  exact J.ends (res_tmp rfl rfl) Tk3 ⟨oa, oc, bs, rfl, rfl⟩
 ·refine Zl hk5 <| Zf <| Run.skip <| hk4 _ _ <| Zs fun _ hk7 => Mv 0 E3 <| Ef 1 E2 (EF.buildSliceS rfl Tryz.underlying46 z5 zero5 rfl (by decide) rfl rfl rfl rfl) ?_
  rintro _ _ ⟨b31, rfl, rfl⟩
  refine J.close (A := slA 5 1 bytE (.slice (some ⟨b31, 0, none⟩) 0 0) []) (m := [blk b31 [] 5]) Tk1 (fun _ q => slA_blk (xs := []) rfl q) ?_
  refine Sq.slCase (v := .slice oa l.length oc) (xs := l) Rc (fun a2 c2 hv2 hh2 => ?_)
  cases hv2
  refine Mv 2 E3 <| Qp 3 E2 (Zn E2) <| Fa 4 E3 f69_0 <| Qq 5 E2 (QR.load1 (v := .slice oa l.length oc) rfl rfl g46 (Ref07Open.sub_b _)) ?_
  refine Ef 6 E2 (EF.append (xs := []) (ys := l) (enc := bytE) el5 (fun _ => rfl) (fun _ => cell_one rfl) rfl rfl rfl Tryz.underlying46 Tryz.underlying46 rfl rfl Rc (RowsAt.ownH (e := 5) (fun _ => rfl) hh2 (by repeat (first | exact List.Mem.head _ | apply List.Mem.tail))) (by simp; omega)) ?_
  rintro sl36 _ rfl
  refine Mv 7 E3 <| Ef 8 E2 (EF.append (xs := ([] ++ l)) (ys := ((ahead td (tlvS x)).2 ++ pieceF (tlvS x) x.l)) (enc := bytE) el5 (fun _ => rfl) (fun _ => cell_one rfl) rfl rfl rfl Tryz.underlying46 Tryz.underlying46 rfl rfl Rc (RowsAt.ownH (e := 5) (fun _ => rfl) hh18 (by repeat (first | exact List.Mem.head _ | apply List.Mem.tail))) (by simp only [List.length_append, List.nil_append]; omega)) ?_
  rintro sl38 _ rfl
  refine Sq.slCase (v := sl38) (xs := (([] ++ l) ++ ((ahead td (tlvS x)).2 ++ pieceF (tlvS x) x.l))) Rc (fun a38 c38 hv38 hh38 => ?_)
  subst hv38
  refine Qp 9 E2 (Zn E2) <| Fa 10 E3 f69_0 <| Ac 11 rfl (EF.store rfl rfl rfl z46 (Ref07Open.set_b _ (⟨a38, (([] ++ l) ++ ((ahead td (tlvS x)).2 ++ pieceF (tlvS x) x.l)).length, c38⟩ : Slc)) (cell_one rfl)) ?_
  rintro _ _ rfl
  refine Zl hk7 <| Zs fun _ hk8 => Mv 0 E3 <| Qp 1 E2 (Zn E2) <| Fa 2 E3 f69_1 <| Ac 3 rfl (EF.store rfl rfl rfl z67 (Ref07Open.set_s _ _) (cell_one rfl)) ?_
  rintro _ _ rfl
  refine Zl hk8 <| Zs fun _ hk9 => Sg 0 E3 <| Zl hk9 <| Run.ret ?_
  have hR : (addR td (tlvS x) x.l l mtu) = ((ahead td (tlvS x)).1, ([] ++ l) ++ ((ahead td (tlvS x)).2 ++ pieceF (tlvS x) x.l), true) := by rw [List.nil_append]; unfold addR; rw [if_pos (show (l.length : Int) + (addL td (tlvS x) x.l).length + 4 ≤ mtu by show (l.length : Int) + ((ahead td (tlvS x)).2 ++ pieceF (tlvS x) x.l).length + 4 ≤ mtu; omega)]; rfl
  rw [hR]
  exact J.ends (res_tmp rfl rfl) Tk3 ⟨a38, c38, b8, rfl, rfl⟩

set_option maxHeartbeats 1000000 in
theorem rfits_spec (F : Fr) (src : Bs 16) {mtu : Int} (hm1 : 0 ≤ mtu) (hm2 : mtu ≤ 1000000) (x : TlvX) (hw : (tlvS x).WF) (hx : TlvIn F x) (hr32 : ∀ n ∈ x.l, 0 ≤ n ∧ n < 4294967296) (hxl : x.l.length ≤ 4294967296)  : Spec Tryz.prog 20 #[.agg (Bs.enc src).toArray, .int .i64 mtu, .agg (Tlv.enc (tlvS x)).toArray] [] F (fun v S => v = .int .i64 (fitsF src mtu (tlvS x) x.l) ∧ S = []) := by
 refine Spec.intro (N := 37) (args := [.agg (Bs.enc src).toArray, .int .i64 mtu, .agg (Tlv.enc (tlvS x)).toArray]) Tryz.func20 rfl rfl (by simp) ?_
 refine Zs fun _ hk1 => Ef 0 E2 (EF.boxA rfl rfl) ?_
 rintro _ _ ⟨b3, rfl, rfl⟩
 refine Ef 1 E2 (EF.boxA rfl rfl) ?_
 rintro _ _ ⟨b5, rfl, rfl⟩
 refine Sg 2 E3 <| Zl hk1 <| Zs fun _ hk2 => Qq 0 E2 (Z0 E2 g45 (Tlv.enc_sub _)) ?_
 refine Ef 1 E2 (EF.call rfl ce11 rfl Takes.nil (fun F' hle hr => rchk_spec F' x (hx.mono hle) hxl)) ?_
 rintro _ _ ⟨_, ⟨rfl, rfl⟩, rfl⟩
 refine J.app <| Sg 2 E3 <| Zl hk2 <| Run.seq fun _ hk3 => Zs fun _ hk4 => Mv 0 E3 <| Qp 1 E2 (Zq E3) <| J.caseD (fun c11 => ?_) (fun c11 => ?_)
 ·exact Zl hk4 <| Zt <| Zs fun _ hk5 => Mv 0 E3 <| Sg 1 E3 <| Zl hk5 <| Run.ret <| J.ends (res_tmp rfl rfl) Takes.nil ⟨congrArg (Value.int .i64) (by unfold fitsF; rw [if_pos c11]), rfl⟩
 ·refine Zl hk4 <| Zf <| Run.skip <| hk3 _ _ <| Run.seq fun _ hk6 => Run.seq fun _ hk7 => Run.regionD (M := [0, 1, 3, 7, 15, 31, 63, 127, 255, 511, 1023, 2047, 511, 4607, 12799, 32767, 65535, 131071]) (q := 227327) (r := 17442) Kr ?_
  refine Dp 0 E2 (Za E2 f45_0) <| Dr 1 E2 (Z1 E2 g5 (Tlv.sub_type _)) ?_
  refine Dp 2 E2 (Ze E3) <| J.caseD (fun c15 => ?_) (fun c15 => ?_)
  ·refine Dp 3 E2 (Zm E2) <| Dy 4 E3 (Za E2 f45_5) <| Dz 5 E3 (Z1 E2 g36 (Tlv.sub_metric _)) ?_
   refine Dy 6 E3 (Zq E3) <| J.caseD (fun c19 => ?_) (fun c19 => ?_)
   ·refine Dp 7 E2 (QP.pick_t rfl rfl rfl) <| Dp 8 E2 (Zm E2) <| Dy 9 E3 (Za E2 f45_10) <| Dz 10 E3 (Z0 E2 g23 (Tlv.sub_addr _)) ?_
    refine Dy 12 E3 (Za E2 f45_11) <| Dy 13 E3 (Za E2 f42_0) <| Dz 14 E3 (Z0 E2 g40 ((Tlv.sub_pair _).trans (Pair.sub_dst _))) ?_
    refine De 11 <| One.mk (o := _) (l := [14]) rfl Kr (Want.yes rfl rfl rfl rfl) rfl (ltN rfl) (EF.call rfl ce44 rfl Takes.nil (fun F' hle hr => rfamily_spec F' (tlvS x).addr)) Kr ?_
    rintro _ _ ⟨_, ⟨rfl, rfl⟩, rfl⟩
    refine ⟨?_, ?_⟩
    ·rw [List.forall_mem_cons]
     refine ⟨?_, fun _ h => (by cases h)⟩
     ·refine Look.app ?_
      exact Look.mk rfl rfl rfl (Z0 E2 g40 ((Tlv.sub_pair _).trans (Pair.sub_dst _)))
    refine ?_
    refine J.app <| De 15 <| One.mk (o := _) (l := []) rfl Kr (Want.yes rfl rfl rfl rfl) rfl (ltN rfl) (EF.call rfl ce45 rfl Takes.nil (fun F' hle hr => rpfamily_spec F' (tlvS x).pair.dst)) Kr ?_
    rintro _ _ ⟨_, ⟨rfl, rfl⟩, rfl⟩
    refine ⟨fun _ h => (by cases h), ?_⟩
    refine J.app <| Dy 16 E3 (Zq E3) <| J.caseD (fun c29 => ?_) (fun c29 => ?_)
    ·exact Dp 17 E2 (QP.pick_t rfl rfl rfl) <| Dn <| hk7 _ _ <| Zt <| Zs fun _ hk8 => Sg 0 E3 <| Zl hk8 <| Run.ret <| J.ends (res_tmp rfl rfl) Takes.nil ⟨congrArg (Value.int .i64) (by unfold fitsF; rw [if_neg c11, if_pos ⟨⟨c15, c19⟩, c29⟩]), rfl⟩
    ·refine Dp 17 E2 (QP.pick_t rfl rfl rfl) <| Dn <| hk7 _ _ <| Zf <| Run.skip <| hk6 _ _ <| Run.seq fun _ hk9 => Run.seq fun _ hk10 => Run.regionD (M := [0, 1, 0, 0, 15, 31]) (q := 45) (r := 5) Kr ?_
     refine Dr 0 E2 (Z0 E2 g23 (Bs.sub _)) ?_
     refine Dr 2 E2 (Z0 E2 g45 (Tlv.enc_sub _)) ?_
     refine Dp 3 E2 (Zm E2) <| De 1 <| Om [2] rfl rfl (EF.call rfl ce21 rfl Takes.nil (fun F' hle hr => rbegin7_spec F' src)) ?_
     rintro _ _ ⟨_, ⟨b32, s32, rfl, rfl⟩, rfl⟩
     refine ⟨?_, ?_⟩
     ·rw [List.forall_mem_cons]
      refine ⟨?_, fun _ h => (by cases h)⟩
      ·refine Look.app ?_
       exact Look.mk rfl rfl rfl (Z0 E2 g45 (Tlv.enc_sub _))
     refine ?_
     refine J.app <| De 4 <| Om [] rfl rfl (EF.call rfl ce22 rfl Tk3 (fun F' hle hr => radd_spec F' x hw (TlvIn.mono hx hle) hr32 (Decidable.of_not_not c11) (td := toldB src) (l := []) hm1 hm2 (by simp))) ?_
     rintro _ _ ⟨_, ⟨a35, e35, s35, rfl, rfl⟩, rfl⟩
     refine ⟨fun _ h => (by cases h), ?_⟩
     refine J.app <| J.caseB (fun c35 => ?_) (fun c35 => ?_)
     ·exact Dp 5 E2 (Zu E2) <| Dn <| hk10 _ _ <| Zf <| Run.skip <| hk9 _ _ <| Zs fun _ hk11 => Sg 0 E3 <| Zl hk11 <| Run.ret <| J.ends (res_tmp rfl rfl) Takes.nil ⟨congrArg (Value.int .i64) (by unfold fitsF; rw [if_neg c11, if_neg (by rintro ⟨⟨h1, h2⟩, h3⟩; first | exact c15 h1 | exact c19 h2 | exact c29 h3), if_pos (addR_fit c35)]), rfl⟩
     ·exact Dp 5 E2 (Zu E2) <| Dn <| hk10 _ _ <| Zt <| Zs fun _ hk12 => Sg 0 E3 <| Zl hk12 <| Run.ret <| J.ends (res_tmp rfl rfl) Takes.nil ⟨congrArg (Value.int .i64) (by unfold fitsF; rw [if_neg c11, if_neg (by rintro ⟨⟨h1, h2⟩, h3⟩; first | exact c15 h1 | exact c19 h2 | exact c29 h3), if_neg (addR_not c35)]), rfl⟩
   ·refine Dp 7 E2 (QP.pick_t rfl rfl rfl) <| Dp 8 E2 (Zm E2) <| Ds 9 E3 <| Ds 10 E3 <| Ds 12 E3 <| Ds 13 E3 <| Ds 14 E3 <| De 11 <| One.skipD (o := _) rfl Kr (Want.no rfl rfl rfl rfl) rfl (ltN rfl) ?_
    refine De 15 <| One.skipD (o := _) rfl Kr (Want.no rfl rfl rfl rfl) rfl (ltN rfl) ?_
    refine Ds 16 E3 <| Dp 17 E2 (QP.pick_f rfl rfl rfl) <| Dn <| hk7 _ _ <| Zf <| Run.skip <| hk6 _ _ <| Run.seq fun _ hk13 => Run.seq fun _ hk14 => Run.regionD (M := [0, 1, 0, 0, 15, 31]) (q := 45) (r := 5) Kr ?_
    refine Dr 0 E2 (Z0 E2 g23 (Bs.sub _)) ?_
    refine Dr 2 E2 (Z0 E2 g45 (Tlv.enc_sub _)) ?_
    refine Dp 3 E2 (Zm E2) <| De 1 <| Om [2] rfl rfl (EF.call rfl ce21 rfl Takes.nil (fun F' hle hr => rbegin7_spec F' src)) ?_
    rintro _ _ ⟨_, ⟨b32, s32, rfl, rfl⟩, rfl⟩
    refine ⟨?_, ?_⟩
    ·rw [List.forall_mem_cons]
     refine ⟨?_, fun _ h => (by cases h)⟩
     ·refine Look.app ?_
      exact Look.mk rfl rfl rfl (Z0 E2 g45 (Tlv.enc_sub _))
    refine ?_
    refine J.app <| De 4 <| Om [] rfl rfl (EF.call rfl ce22 rfl Tk3 (fun F' hle hr => radd_spec F' x hw (TlvIn.mono hx hle) hr32 (Decidable.of_not_not c11) (td := toldB src) (l := []) hm1 hm2 (by simp))) ?_
    rintro _ _ ⟨_, ⟨a35, e35, s35, rfl, rfl⟩, rfl⟩
    refine ⟨fun _ h => (by cases h), ?_⟩
    refine J.app <| J.caseB (fun c35 => ?_) (fun c35 => ?_)
    ·exact Dp 5 E2 (Zu E2) <| Dn <| hk14 _ _ <| Zf <| Run.skip <| hk13 _ _ <| Zs fun _ hk15 => Sg 0 E3 <| Zl hk15 <| Run.ret <| J.ends (res_tmp rfl rfl) Takes.nil ⟨congrArg (Value.int .i64) (by unfold fitsF; rw [if_neg c11, if_neg (by rintro ⟨⟨h1, h2⟩, h3⟩; first | exact c15 h1 | exact c19 h2 | exact c29 h3), if_pos (addR_fit c35)]), rfl⟩
    ·exact Dp 5 E2 (Zu E2) <| Dn <| hk14 _ _ <| Zt <| Zs fun _ hk16 => Sg 0 E3 <| Zl hk16 <| Run.ret <| J.ends (res_tmp rfl rfl) Takes.nil ⟨congrArg (Value.int .i64) (by unfold fitsF; rw [if_neg c11, if_neg (by rintro ⟨⟨h1, h2⟩, h3⟩; first | exact c15 h1 | exact c19 h2 | exact c29 h3), if_neg (addR_not c35)]), rfl⟩
  ·refine Dp 3 E2 (Zm E2) <| Ds 4 E3 <| Ds 5 E3 <| Ds 6 E3 <| Dp 7 E2 (QP.pick_f rfl rfl rfl) <| Dp 8 E2 (Zm E2) <| Ds 9 E3 <| Ds 10 E3 <| Ds 12 E3 <| Ds 13 E3 <| Ds 14 E3 <| De 11 <| One.skipD (o := _) rfl Kr (Want.no rfl rfl rfl rfl) rfl (ltN rfl) ?_
   refine De 15 <| One.skipD (o := _) rfl Kr (Want.no rfl rfl rfl rfl) rfl (ltN rfl) ?_
   refine Ds 16 E3 <| Dp 17 E2 (QP.pick_f rfl rfl rfl) <| Dn <| hk7 _ _ <| Zf <| Run.skip <| hk6 _ _ <| Run.seq fun _ hk17 => Run.seq fun _ hk18 => Run.regionD (M := [0, 1, 0, 0, 15, 31]) (q := 45) (r := 5) Kr ?_
   refine Dr 0 E2 (Z0 E2 g23 (Bs.sub _)) ?_
   refine Dr 2 E2 (Z0 E2 g45 (Tlv.enc_sub _)) ?_
   refine Dp 3 E2 (Zm E2) <| De 1 <| Om [2] rfl rfl (EF.call rfl ce21 rfl Takes.nil (fun F' hle hr => rbegin7_spec F' src)) ?_
   rintro _ _ ⟨_, ⟨b32, s32, rfl, rfl⟩, rfl⟩
   refine ⟨?_, ?_⟩
   ·rw [List.forall_mem_cons]
    refine ⟨?_, fun _ h => (by cases h)⟩
    ·refine Look.app ?_
     exact Look.mk rfl rfl rfl (Z0 E2 g45 (Tlv.enc_sub _))
   refine ?_
   refine J.app <| De 4 <| Om [] rfl rfl (EF.call rfl ce22 rfl Tk3 (fun F' hle hr => radd_spec F' x hw (TlvIn.mono hx hle) hr32 (Decidable.of_not_not c11) (td := toldB src) (l := []) hm1 hm2 (by simp))) ?_
   rintro _ _ ⟨_, ⟨a35, e35, s35, rfl, rfl⟩, rfl⟩
   refine ⟨fun _ h => (by cases h), ?_⟩
   refine J.app <| J.caseB (fun c35 => ?_) (fun c35 => ?_)
   ·exact Dp 5 E2 (Zu E2) <| Dn <| hk18 _ _ <| Zf <| Run.skip <| hk17 _ _ <| Zs fun _ hk19 => Sg 0 E3 <| Zl hk19 <| Run.ret <| J.ends (res_tmp rfl rfl) Takes.nil ⟨congrArg (Value.int .i64) (by unfold fitsF; rw [if_neg c11, if_neg (by rintro ⟨⟨h1, h2⟩, h3⟩; first | exact c15 h1 | exact c19 h2 | exact c29 h3), if_pos (addR_fit c35)]), rfl⟩
   ·exact Dp 5 E2 (Zu E2) <| Dn <| hk18 _ _ <| Zt <| Zs fun _ hk20 => Sg 0 E3 <| Zl hk20 <| Run.ret <| J.ends (res_tmp rfl rfl) Takes.nil ⟨congrArg (Value.int .i64) (by unfold fitsF; rw [if_neg c11, if_neg (by rintro ⟨⟨h1, h2⟩, h3⟩; first | exact c15 h1 | exact c19 h2 | exact c29 h3), if_neg (addR_not c35)]), rfl⟩
end Slb
