/- Q7: a part of the proof that a law of this package holds for every input; no condition. -/
import Derived.Test.YtmolpkkkndopcaaM2
import Derived.Test.YtmolpkkkndopcaaQ6
namespace Slb
open Go Go.Proofs
set_option maxRecDepth 20000
def pairF (ae : Int) (dst : Prefix) (bad : Bool) (r : Rs) : Pair × Rs × Bool :=
  match (subsF [128] bad r).1 with
  | [] => (⟨dst, anyB (pfamilyB dst)⟩, (subsF [128] bad r).2.1, (subsF [128] bad r).2.2)
  | x :: l =>
    if soundB ((subsF [128] bad r).2.2 || !decide (l.length = 0)) (subsF [128] bad r).2.1 = false then (⟨dst, anyB (pfamilyB dst)⟩, (subsF [128] bad r).2.1, (subsF [128] bad r).2.2 || !decide (l.length = 0))
    else (⟨dst, (prefF ae (u8F ⟨x.2, 0⟩) 0 (Bs.zero 16) (rdTake ⟨x.2, 0⟩ 1).2 false).1⟩, (subsF [128] bad r).2.1,
      ((subsF [128] bad r).2.2 || !decide (l.length = 0)) || !(soundB (prefF ae (u8F ⟨x.2, 0⟩) 0 (Bs.zero 16) (rdTake ⟨x.2, 0⟩ 1).2 false).2.2 (prefF ae (u8F ⟨x.2, 0⟩) 0 (Bs.zero 16) (rdTake ⟨x.2, 0⟩ 1).2 false).2.1 && (decide (0 < u8F ⟨x.2, 0⟩) && checkPairB ⟨dst, (prefF ae (u8F ⟨x.2, 0⟩) 0 (Bs.zero 16) (rdTake ⟨x.2, 0⟩ 1).2 false).1⟩)))

set_option maxHeartbeats 3000000 in
theorem pair_spec (F : Fr) {b rb : Nat} {t : Tlv} {bad : Bool} {r : Rs} (ae : Int) (dst : Prefix) (hae : 0 ≤ ae ∧ ae < 256) (hrl : r.l.length ≤ 1000000)  : Spec Try.prog 66 #[fp b, .int .u8 ae, .agg (Prefix.enc dst).toArray] [blk b (PacketPiece.enc ⟨some ⟨rb, 0, none⟩, t, bad⟩) 100, RdA rb r] F (fun v S => v = .tuple #[] ∧ S = [blk b (PacketPiece.enc ⟨some ⟨rb, 0, none⟩, { t with pair := (pairF ae dst bad r).1 }, (pairF ae dst bad r).2.2⟩) 100, RdA rb (pairF ae dst bad r).2.1]) := by
 refine Spec.intro (N := 73) (args := [fp b, .int .u8 ae, .agg (Prefix.enc dst).toArray]) Try.func66 rfl rfl (by simp) ?_
 refine Run.seq fun k1 hk1 => Run.region ?_
 show Sq _ _ _ [0] _ _ _ _
 refine Ef 0 rfl rfl (EF.boxA rfl rfl) ?_
 rintro _ _ ⟨b5, rfl, rfl⟩
 refine Sq.nil <| hk1 _ _ <| Run.seq fun k2 hk2 => Run.regionD (M := [0, 0, 0, 4, 12, 30, 63, 127, 255, 511]) (q := 487) (r := 6) Kr ?_
 refine Dp 0 rfl rfl (QP.move rfl rfl) <| Dr 1 rfl rfl (QR.load rfl rfl g41 (Prefix.enc_sub _)) ?_
 refine Dr 2 rfl rfl (QR.load rfl rfl g41 (Prefix.enc_sub _)) ?_
 refine De 3 <| Om [1] rfl rfl (EF.call rfl ce54 rfl Takes.nil (fun F' hle hr => pfamily_spec F' (dst))) ?_
 rintro _ _ ⟨_, ⟨rfl, rfl⟩, rfl⟩
 refine ⟨?_, ?_⟩
 ·rw [List.forall_mem_cons]
  refine ⟨?_, fun _ h => (by cases h)⟩
  ·refine Look.app ?_
   exact Look.mk rfl rfl rfl (QR.load rfl rfl g41 (Prefix.enc_sub _))
 refine ?_
 refine J.app ?_
 refine De 4 <| Om [1] rfl rfl (EF.call rfl ce64 rfl Takes.nil (fun F' hle hr => any_spec F' (pfamilyB dst))) ?_
 rintro _ _ ⟨_, ⟨rfl, rfl⟩, rfl⟩
 refine ⟨?_, ?_⟩
 ·rw [List.forall_mem_cons]
  refine ⟨?_, fun _ h => (by cases h)⟩
  ·refine Look.app ?_
   exact Look.mk rfl rfl rfl (QR.load rfl rfl g41 (Prefix.enc_sub _))
 refine ?_
 refine J.app ?_
 refine Dp 5 rfl rfl (QP.build (l := Pair.enc ⟨(dst), ((anyB (pfamilyB dst)))⟩) rfl st43 rfl (by exact ⟨(congrArg some (Prefix.enc_len _).symm), ⟨(congrArg some (Prefix.enc_len _).symm), trivial⟩⟩) rfl) <| Dp 6 rfl rfl (QP.nilCheck rfl rfl) <| Dp 7 rfl rfl (QP.fieldAddr rfl rfl f100_1) <| Dp 8 rfl rfl (QP.fieldAddr rfl rfl f46_11) <| De 9 <| Oa [] rfl (EF.storeA rfl rfl rfl z43 ((PacketPiece.set_tlv _ _).trans (PacketPiece.sub_tlv _) (Tlv.set_pair _ _)) (Pair.enc_cell _)) ?_
 rintro _ _ rfl
 refine ⟨fun _ h => (by cases h), ?_⟩
 refine Dn <| hk2 _ _ <| Run.seq fun k3 hk3 => Run.region ?_
 show Sq _ _ _ [0, 1, 2, 3] _ _ _ _
 refine Mv 0 rfl rfl rfl <| Ef 1 rfl rfl (EF.buildSliceS rfl Try.underlying34 z5 zero5 rfl (by decide) rfl rfl rfl rfl) ?_
 rintro _ _ ⟨b19, rfl, rfl⟩
 refine Ef 2 rfl rfl (EF.call rfl ce36 rfl Tk2 (fun F' hle hr => subs_spec F' (bad := bad) (r := r) (ts := [128]) (by simp) (argSl_all (enc := bytE) (xs := [128]) (fun _ => rfl) (hr b19 _ Rc)) hrl)) ?_
 rintro v20 _ ⟨_, ⟨rs, rfl, hrs, hrn, hrf⟩, rfl⟩
 refine J.app ?_
 generalize hsb : subsF [128] bad r = sb at hrs ⊢
 refine Sq.slCase (v := v20) (xs := rs) Rc (fun a20 c20 hv20 hh20 => ?_)
 subst hv20
 refine Sg 3 rfl rfl rfl <| Sq.nil <| hk3 _ _ <| Run.seq fun k4 hk4 => Run.region ?_
 show Sq _ _ _ [0, 1, 2, 3, 4] _ _ _ _
 refine Mv 0 rfl rfl rfl <| Mv 1 rfl rfl rfl <| Qp 2 rfl rfl (QP.len rfl rfl rfl Try.underlying65) <| Qp 3 rfl rfl (QP.leq rfl rfl rfl) <| Ef 4 rfl rfl (EF.call rfl ce62 rfl Tk2 (fun F' hle hr => need_spec F' (bad := sb.2.2) (decide ((rs.length : Int) ≤ 1)))) ?_
 rintro _ _ ⟨_, ⟨rfl, rfl⟩, rfl⟩
 refine J.app ?_
 refine Sq.nil <| hk4 _ _ <| Run.seq fun k5 hk5 => Run.seq fun k6 hk6 => Run.region ?_
 show Sq _ _ _ [0, 1, 2, 3, 4, 5, 6, 7] _ _ _ _
 refine Mv 0 rfl rfl rfl <| Ef 1 rfl rfl (EF.call rfl ce42 rfl Tk2 (fun F' hle hr => sound_spec F' (bad := (sb.2.2 || !(decide ((rs.length : Int) ≤ 1)))) (r := sb.2.1))) ?_
 rintro _ _ ⟨_, ⟨rfl, rfl⟩, rfl⟩
 refine J.app ?_
 refine J.caseB (fun c27 => ?_) (fun c27 => ?_)
 ·refine Qp 2 rfl rfl (QP.not rfl rfl) <| Mv 3 rfl rfl rfl <| Ym 4 rfl rfl rfl rfl <| Yp 5 rfl rfl rfl (QP.len rfl rfl rfl Try.underlying65) <| Yp 6 rfl rfl rfl (QP.eql rfl rfl rfl) <| J.caseD (fun c32 => ?_) (fun c32 => ?_)
  ·refine Pf 7 rfl rfl rfl rfl <| Sq.nil <| hk6 _ _ <| Run.cond_t rfl <| Run.ret ?_
   have hrn0 : rs = [] := List.eq_nil_of_length_eq_zero (by omega)
   subst hrn0
   have hp : pairF ae dst bad r = (⟨dst, anyB (pfamilyB dst)⟩, sb.2.1, sb.2.2 || !(decide ((([] : List RawX).length : Int) ≤ 1))) := by unfold pairF; rw [hsb, ← hrs]; simp
   rw [hp]
   exact J.ends (res_none rfl) Tk2 ⟨rfl, rfl⟩
  ·refine Pf 7 rfl rfl rfl rfl <| Sq.nil <| hk6 _ _ <| Run.cond_f rfl <| Run.skip <| hk5 _ _ <| Run.seq fun k7 hk7 => Run.region ?_
   show Sq _ _ _ [0, 1, 2, 3, 4, 5, 6, 7] _ _ _ _
   obtain ⟨x, hi⟩ : ∃ x, rs[Int.toNat 0]? = some x := ⟨_, List.getElem?_eq_getElem (by show 0 < rs.length; omega)⟩
   obtain ⟨b0, o0, rfl⟩ := hh20.get (by omega)
   have hxl := hrf x (List.mem_of_getElem? hi)
   obtain ⟨rest0, hcons⟩ : ∃ rest0, rs = x :: rest0 := by cases rs with | nil => simp at hi | cons y l => exact ⟨l, by rw [show y = x by simpa using hi]⟩
   obtain ⟨rest, hp1⟩ := one_out hi
   refine Mv 0 rfl rfl rfl <| Qp 1 rfl rfl (QP.indexAddr rfl rfl rfl Try.underlying65 z69 Og Og) <| Fa 2 rfl rfl rfl f69_1 <| Qq 3 rfl rfl (QR.loadSlF1 rfl rfl g34 rawE_len (SlAt.own rawE_len Rc) hi (Raw.sub_body _)) ?_
   refine J.openE Rc (fun _ q => (⟨(), rowsB_out hp1 q⟩ : ∃ _ : Unit, _)) fun _ => ?_
   refine J.app ?_
   refine Ef 4 rfl rfl (EF.call rfl ce29 rfl Tk1 (fun F' hle hr => Spec.lendSl (e := 5) (z := 1) (enc := bytE) (xs := x.l) (a := x.a) (c := x.c) (fun _ => rfl) (fun F2 hle2 h2 => newR F2 hxl h2))) ?_
   rintro _ _ ⟨_, ⟨_, ⟨rb2, rfl, rfl⟩, rfl⟩, rfl⟩
   refine J.app ?_
   refine Qp 5 rfl rfl (QP.build (l := PacketPiece.enc ⟨some ⟨rb2, 0, none⟩, Tlv.zero, false⟩) rfl st100 rfl (by exact ⟨rfl, trivial⟩) rfl) <| Ef 6 rfl rfl (EF.boxA rfl rfl) ?_
   rintro _ _ ⟨b40, rfl, rfl⟩
   refine Sg 7 rfl rfl rfl <| Sq.nil <| hk7 _ _ <| Run.seq fun k8 hk8 => Run.region ?_
   show Sq _ _ _ [0, 1, 2, 3, 4, 5] _ _ _ _
   refine Mv 0 rfl rfl rfl <| Qp 1 rfl rfl (QP.nilCheck rfl rfl) <| Fa 2 rfl rfl rfl f100_0 <| Qq 3 rfl rfl (QR.load1 rfl rfl g90 (PacketPiece.sub_reader _)) ?_
   refine Ef 4 rfl rfl (EF.call rfl ce30 rfl Tk1 (fun F' hle hr => u8_spec F' (r := (⟨x.l, 0⟩ : Rs)))) ?_
   rintro _ _ ⟨_, ⟨rfl, rfl⟩, rfl⟩
   refine J.app ?_
   refine Sg 5 rfl rfl rfl <| Sq.nil <| hk8 _ _ <| Run.seq fun k9 hk9 => Run.region ?_
   show Sq _ _ _ [0, 1, 2, 3, 4, 5, 6, 7, 8, 9, 10] _ _ _ _
   refine Mv 0 rfl rfl rfl <| Mv 1 rfl rfl rfl <| Mv 2 rfl rfl rfl <| Mv 3 rfl rfl rfl <| Qp 4 rfl rfl (QP.const (.agg (Bs.enc (⟨[0, 0, 0, 0, 0, 0, 0, 0, 0, 0, 0, 0, 0, 0, 0, 0], rfl⟩ : Bs 16)).toArray) (fun _ _ => by kernel_rfl)) <| Ef 5 rfl rfl (EF.call rfl ce65 rfl Tk2 (fun F' hle hr => prefix_spec F' (t := Tlv.zero) (bad := false) (r := (rdTake ⟨x.l, 0⟩ 1).2) ae (u8F ⟨x.l, 0⟩) 0 (Bs.zero 16) (u8_range _) (by decide))) ?_
   rintro _ _ ⟨_, ⟨rfl, rfl⟩, rfl⟩
   refine J.app ?_
   generalize hPF : prefF ae (u8F ⟨x.l, 0⟩) 0 (Bs.zero 16) (rdTake ⟨x.l, 0⟩ 1).2 false = PF
   refine Qp 6 rfl rfl (QP.nilCheck rfl rfl) <| Fa 7 rfl rfl rfl f100_1 <| Fa 8 rfl rfl rfl f46_11 <| Fa 9 rfl rfl rfl f43_1 <| Ac 10 rfl (EF.storeA rfl rfl rfl z41 ((PacketPiece.set_tlv _ _).trans (PacketPiece.sub_tlv _) ((Tlv.set_pair _ _).trans (Tlv.sub_pair _) (Pair.set_src _ _))) (Prefix.enc_cell _)) ?_
   rintro _ _ rfl
   refine Sq.nil <| hk9 _ _ <| Run.region ?_
   show Sq _ _ _ [0, 1, 2, 3, 4, 5, 6, 7, 8, 9, 10, 11, 12, 13, 14, 15, 16] _ _ _ _
   refine Mv 0 rfl rfl rfl <| Mv 1 rfl rfl rfl <| Ef 2 rfl rfl (EF.call rfl ce42 rfl Tk2 (fun F' hle hr => sound_spec F' (bad := PF.2.2) (r := PF.2.1))) ?_
   rintro _ _ ⟨_, ⟨rfl, rfl⟩, rfl⟩
   refine J.app ?_
   refine J.caseB (fun c58 => ?_) (fun c58 => ?_)
   ·refine Mv 3 rfl rfl rfl <| Ym 4 rfl rfl rfl rfl <| Yp 5 rfl rfl rfl (QP.gtr rfl rfl rfl) <| J.caseD (fun c61 => ?_) (fun c61 => ?_)
    ·refine Pt 6 rfl rfl rfl rfl <| Mv 7 rfl rfl rfl <| Ym 8 rfl rfl rfl rfl <| Yp 9 rfl rfl rfl (QP.nilCheck rfl rfl) <| Yf 10 rfl rfl rfl rfl f100_1 <| Yf 11 rfl rfl rfl rfl f46_11 <| Yq 12 rfl rfl rfl (QR.load rfl rfl g43 ((PacketPiece.sub_tlv _).trans (Tlv.sub_pair _))) ?_
     refine Ye 13 rfl rfl rfl (EF.call rfl ce48 rfl Takes.nil (fun F' hle hr => checkPair_spec F' (⟨dst, PF.1⟩ : Pair))) ?_
     rintro _ _ ⟨_, ⟨rfl, rfl⟩, rfl⟩
     refine J.app ?_
     refine Yp 14 rfl rfl rfl (QP.eql rfl rfl rfl) <| Pt 15 rfl rfl rfl rfl <| Ef 16 rfl rfl (EF.call rfl ce62 rfl Tk2 (fun F' hle hr => need_spec F' (bad := (sb.2.2 || !(decide ((rs.length : Int) ≤ 1)))) (decide (ernoB (checkPairB ⟨dst, PF.1⟩) = 0)))) ?_
     rintro _ _ ⟨_, ⟨rfl, rfl⟩, rfl⟩
     refine J.app ?_
     refine Sq.nil ?_
     have hp : pairF ae dst bad r = (⟨dst, PF.1⟩, sb.2.1, (sb.2.2 || !(decide ((rs.length : Int) ≤ 1))) || !(decide (ernoB (checkPairB ⟨dst, PF.1⟩) = 0))) := by
       have hN : decide (rest0.length = 0) = (decide ((rs.length : Int) ≤ 1)) := decide_eq_decide.2 (by rw [hcons]; simp only [List.length_cons]; omega)
       unfold pairF
       rw [hsb, ← hrs, hcons]
       simp only [List.map_cons, rawM, List.length_map]
       rw [hN, if_neg (by rw [c27]; simp), hPF]
       have h9 : (soundB PF.2.2 PF.2.1 && (decide (0 < u8F ⟨x.l, 0⟩) && checkPairB ⟨dst, PF.1⟩)) = (decide (ernoB (checkPairB ⟨dst, PF.1⟩) = 0)) := by rw [c58, decide_eq_true (show 0 < u8F ⟨x.l, 0⟩ from c61)]; cases checkPairB ⟨dst, PF.1⟩ <;> simp [ernoB]
       rw [h9, hcons]
     rw [hp]
     exact J.ends (res_none rfl) Tk2 ⟨rfl, rfl⟩
    ·refine Pt 6 rfl rfl rfl rfl <| Mv 7 rfl rfl rfl <| Sk 8 rfl rfl rfl <| Sk 9 rfl rfl rfl <| Sk 10 rfl rfl rfl <| Sk 11 rfl rfl rfl <| Sk 12 rfl rfl rfl <| Sk 13 rfl rfl rfl <| Sk 14 rfl rfl rfl <| Pf 15 rfl rfl rfl rfl <| Ef 16 rfl rfl (EF.call rfl ce62 rfl Tk2 (fun F' hle hr => need_spec F' (bad := (sb.2.2 || !(decide ((rs.length : Int) ≤ 1)))) false)) ?_
     rintro _ _ ⟨_, ⟨rfl, rfl⟩, rfl⟩
     refine J.app ?_
     refine Sq.nil ?_
     have hp : pairF ae dst bad r = (⟨dst, PF.1⟩, sb.2.1, (sb.2.2 || !(decide ((rs.length : Int) ≤ 1))) || !false) := by
       have hN : decide (rest0.length = 0) = (decide ((rs.length : Int) ≤ 1)) := decide_eq_decide.2 (by rw [hcons]; simp only [List.length_cons]; omega)
       unfold pairF
       rw [hsb, ← hrs, hcons]
       simp only [List.map_cons, rawM, List.length_map]
       rw [hN, if_neg (by rw [c27]; simp), hPF]
       have h9 : (soundB PF.2.2 PF.2.1 && (decide (0 < u8F ⟨x.l, 0⟩) && checkPairB ⟨dst, PF.1⟩)) = false := by rw [c58, decide_eq_false (show ¬ 0 < u8F ⟨x.l, 0⟩ from c61)]; simp
       rw [h9, hcons]
     rw [hp]
     exact J.ends (res_none rfl) Tk2 ⟨rfl, rfl⟩
   ·refine Mv 3 rfl rfl rfl <| Sk 4 rfl rfl rfl <| Sk 5 rfl rfl rfl <| Pf 6 rfl rfl rfl rfl <| Mv 7 rfl rfl rfl <| Sk 8 rfl rfl rfl <| Sk 9 rfl rfl rfl <| Sk 10 rfl rfl rfl <| Sk 11 rfl rfl rfl <| Sk 12 rfl rfl rfl <| Sk 13 rfl rfl rfl <| Sk 14 rfl rfl rfl <| Pf 15 rfl rfl rfl rfl <| Ef 16 rfl rfl (EF.call rfl ce62 rfl Tk2 (fun F' hle hr => need_spec F' (bad := (sb.2.2 || !(decide ((rs.length : Int) ≤ 1)))) false)) ?_
    rintro _ _ ⟨_, ⟨rfl, rfl⟩, rfl⟩
    refine J.app ?_
    refine Sq.nil ?_
    have hp : pairF ae dst bad r = (⟨dst, PF.1⟩, sb.2.1, (sb.2.2 || !(decide ((rs.length : Int) ≤ 1))) || !false) := by
      have hN : decide (rest0.length = 0) = (decide ((rs.length : Int) ≤ 1)) := decide_eq_decide.2 (by rw [hcons]; simp only [List.length_cons]; omega)
      unfold pairF
      rw [hsb, ← hrs, hcons]
      simp only [List.map_cons, rawM, List.length_map]
      rw [hN, if_neg (by rw [c27]; simp), hPF]
      have h9 : (soundB PF.2.2 PF.2.1 && (decide (0 < u8F ⟨x.l, 0⟩) && checkPairB ⟨dst, PF.1⟩)) = false := by rw [c58]; simp
      rw [h9, hcons]
    rw [hp]
    exact J.ends (res_none rfl) Tk2 ⟨rfl, rfl⟩
 ·refine Qp 2 rfl rfl (QP.not rfl rfl) <| Mv 3 rfl rfl rfl <| Sk 4 rfl rfl rfl <| Sk 5 rfl rfl rfl <| Sk 6 rfl rfl rfl <| Pt 7 rfl rfl rfl rfl <| Sq.nil <| hk6 _ _ <| Run.cond_t rfl <| Run.ret ?_
  have hp : pairF ae dst bad r = (⟨dst, anyB (pfamilyB dst)⟩, sb.2.1, sb.2.2 || !(decide ((rs.length : Int) ≤ 1))) := by
    unfold pairF
    rw [hsb]
    cases hk : sb.1 with
    | nil => rw [hk] at hrs; rw [show (decide ((rs.length : Int) ≤ 1)) = true from decide_eq_true (by rw [List.map_eq_nil_iff.1 hrs]; simp)]; simp
    | cons y l => rw [hk] at hrs; have hl := congrArg List.length hrs; rw [List.length_map, List.length_cons] at hl; dsimp only; rw [show decide (l.length = 0) = (decide ((rs.length : Int) ≤ 1)) from decide_eq_decide.2 (by omega), if_pos c27]
  rw [hp]
  exact J.ends (res_none rfl) Tk2 ⟨rfl, rfl⟩
end Slb
