/- J7: a part of the proof that a law of this package holds for every input; no condition. -/
import Derived.Test.YtfokodhfjdhdaaaGreatM2
import Derived.Test.YtfokodhfjdhdaaaGreatJ6
namespace Slb
open Go Go.Proofs
set_option maxRecDepth 20000
def pairF (ae : Int) (dst : Prefix) (bad : Bool) (r : Rs) : Pair × Rs × Bool :=
 match (subsF [128] bad r).1 with
 | [] => (⟨dst, anyB (pfamilyB dst)⟩, (subsF [128] bad r).2.1, (subsF [128] bad r).2.2)
 | x :: l =>
   if soundB ((subsF [128] bad r).2.2 || !decide (l.length = 0)) (subsF [128] bad r).2.1 = false then (⟨dst, anyB (pfamilyB dst)⟩, (subsF [128] bad r).2.1, (subsF [128] bad r).2.2 || !decide (l.length = 0))
   else (⟨dst, (prefF ae (u8F ⟨x.2, 0⟩) 0 (Bs.zero 16) (rdTake ⟨x.2, 0⟩ 1).2 false).1⟩, (subsF [128] bad r).2.1,
     ((subsF [128] bad r).2.2 || !decide (l.length = 0)) || !(soundB (prefF ae (u8F ⟨x.2, 0⟩) 0 (Bs.zero 16) (rdTake ⟨x.2, 0⟩ 1).2 false).2.2 (prefF ae (u8F ⟨x.2, 0⟩) 0 (Bs.zero 16) (rdTake ⟨x.2, 0⟩ 1).2 false).2.1 && (decide (0 < u8F ⟨x.2, 0⟩) && checkPairB ⟨dst, (prefF ae (u8F ⟨x.2, 0⟩) 0 (Bs.zero 16) (rdTake ⟨x.2, 0⟩ 1).2 false).1⟩)))

set_option maxHeartbeats 3000000 in
theorem pair_spec (F : Fr) {b rb : Nat} {t : Tlv} {bad : Bool} {r : Rs} (ae : Int) (dst : Prefix) (hae : 0 ≤ ae ∧ ae < 256) (hrl : r.l.length ≤ 1000000)  : Spec Tryz.prog 115 #[fp b, .int .u8 ae, .agg (Prefix.enc dst).toArray] [blk b (PacketPiece.enc ⟨some ⟨rb, 0, none⟩, t, bad⟩) 185, RdA rb r] F (fun v S => v = .tuple #[] ∧ S = [blk b (PacketPiece.enc ⟨some ⟨rb, 0, none⟩, { t with pair := (pairF ae dst bad r).1 }, (pairF ae dst bad r).2.2⟩) 185, RdA rb (pairF ae dst bad r).2.1]) := by
 refine Spec.intro (N := 73) (args := [fp b, .int .u8 ae, .agg (Prefix.enc dst).toArray]) Tryz.func115 rfl rfl (by simp) ?_
 refine Zs fun _ hk1 => Ef 0 E2 (EF.boxA rfl rfl) ?_
 rintro _ _ ⟨b5, rfl, rfl⟩
 refine Zl hk1 <| Run.seq fun _ hk2 => Run.regionD (M := [0, 0, 0, 4, 12, 30, 63, 127, 255, 511]) (q := 487) (r := 6) Kr ?_
 refine Dp 0 E2 (Zm E2) <| Dr 1 E2 (Z0 E2 g44 (Prefix.enc_sub _)) ?_
 refine Dr 2 E2 (Z0 E2 g44 (Prefix.enc_sub _)) ?_
 refine De 3 <| Om [1] rfl rfl (Zc E2 ce91 TN (fun F' hle hr => pfamily_spec F' (dst))) ?_
 rintro _ _ ⟨_, ⟨rfl, rfl⟩, rfl⟩
 refine ⟨?_, ?_⟩
 ·rw [FM]
  refine ⟨?_, NO⟩
  ·refine Look.app ?_
   exact Lk E3 (Z0 E2 g44 (Prefix.enc_sub _))
 refine ?_
 refine J.app <| De 4 <| Om [1] rfl rfl (Zc E2 ce113 TN (fun F' hle hr => any_spec F' (pfamilyB dst))) ?_
 rintro _ _ ⟨_, ⟨rfl, rfl⟩, rfl⟩
 refine ⟨?_, ?_⟩
 ·rw [FM]
  refine ⟨?_, NO⟩
  ·refine Look.app ?_
   exact Lk E3 (Z0 E2 g44 (Prefix.enc_sub _))
 refine ?_
 refine J.app <| Dp 5 E2 (QP.build (l := Pair.enc ⟨(dst), ((anyB (pfamilyB dst)))⟩) rfl st46 rfl (by exact ⟨(congrArg some (Prefix.enc_len _).symm), ⟨(congrArg some (Prefix.enc_len _).symm), trivial⟩⟩) rfl) <| Dp 6 E2 (Zn E2) <| Dp 7 E2 (Za E2 f185_1) <| Dp 8 E2 (Za E2 f49_11) <| De 9 <| Oa [] rfl (EF.storeA rfl rfl rfl z46 ((PacketPiece.set_tlv _ _).trans (PacketPiece.sub_tlv _) (Tlv.set_pair _ _)) (Pair.enc_cell _)) ?_
 rintro _ _ rfl
 refine N0 <| Dn <| hk2 _ _ <| Zs fun _ hk3 => Mv 0 E3 <| Ef 1 E2 (EF.buildSliceS rfl Tryz.underlying75 z5 zero5 rfl (by decide) rfl rfl rfl rfl) ?_
 rintro _ _ ⟨b19, rfl, rfl⟩
 refine Ef 2 E2 (Zc E2 ce77 Tk2 (fun F' hle hr => subs_spec F' (bad := bad) (r := r) (ts := [128]) (by simp) (argSl_all (enc := bytE) (xs := [128]) (fun _ => rfl) (hr b19 _ Rc)) hrl)) ?_
 rintro v20 _ ⟨_, ⟨rs, rfl, hrs, hrn, hrf⟩, rfl⟩
 refine J.app ?_
 generalize hsb : subsF [128] bad r = sb at hrs ⊢
 refine Sq.slCase (v := v20) (xs := rs) Rc (fun a20 c20 hv20 hh20 => ?_)
 subst hv20
 refine Sg 3 E3 <| Zl hk3 <| Zs fun _ hk4 => Mv 0 E3 <| Mv 1 E3 <| Qp 2 E2 (QP.len rfl rfl rfl Tryz.underlying133) <| Qp 3 E2 (QP.leq rfl rfl rfl) <| Ef 4 E2 (Zc E2 ce111 Tk2 (fun F' hle hr => need_spec F' (bad := sb.2.2) (decide ((rs.length : Int) ≤ 1)))) ?_
 rintro _ _ ⟨_, ⟨rfl, rfl⟩, rfl⟩
 refine J.app <| Zl hk4 <| Run.seq fun _ hk5 => Zs fun _ hk6 => Mv 0 E3 <| Ef 1 E2 (Zc E2 ce83 Tk2 (fun F' hle hr => sound_spec F' (bad := (sb.2.2 || !(decide ((rs.length : Int) ≤ 1)))) (r := sb.2.1))) ?_
 rintro _ _ ⟨_, ⟨rfl, rfl⟩, rfl⟩
 refine J.app <| J.caseB (fun c27 => ?_) (fun c27 => ?_)
 ·refine Qp 2 E2 (Zu E2) <| Mv 3 E3 <| Ym 4 E4 <| Yp 5 E3 (QP.len rfl rfl rfl Tryz.underlying133) <| Yp 6 E3 (Ze E3) <| J.caseD (fun c32 => ?_) (fun c32 => ?_)
  ·refine Pf 7 E4 <| Zl hk6 <| Zt <| Run.ret ?_
   have hrn0 : rs = [] := List.eq_nil_of_length_eq_zero (by omega)
   subst hrn0
   have hp : pairF ae dst bad r = (⟨dst, anyB (pfamilyB dst)⟩, sb.2.1, sb.2.2 || !(decide ((([] : List RawX).length : Int) ≤ 1))) := by unfold pairF; rw [hsb, ← hrs]; simp
   rw [hp]
   exact J.ends (res_none rfl) Tk2 ⟨rfl, rfl⟩
  ·refine Pf 7 E4 <| Zl hk6 <| Zf <| Run.skip <| hk5 _ _ <| Run.seq fun _ hk7 => Run.region ?_
   obtain ⟨x, hi⟩ : ∃ x, rs[Int.toNat 0]? = some x := ⟨_, GE (by show 0 < rs.length; omega)⟩
   obtain ⟨b0, o0, rfl⟩ := hh20.get (by omega)
   have hxl := hrf x (List.mem_of_getElem? hi)
   obtain ⟨rest0, hcons⟩ : ∃ rest0, rs = x :: rest0 := by cases rs with | nil => simp at hi | cons y l => exact ⟨l, by rw [show y = x by simpa using hi]⟩
   obtain ⟨rest, hp1⟩ := one_out hi
   refine Mv 0 E3 <| Qp 1 E2 (QP.indexAddr rfl rfl rfl Tryz.underlying133 z137 Og Og) <| Fa 2 E3 f137_1 <| Qq 3 E2 (QR.loadSlF1 rfl rfl g75 rawE_len (SlAt.own rawE_len Rc) hi (Raw.sub_body _)) ?_
   refine J.openE Rc (fun _ q => (⟨(), rowsB_out hp1 q⟩ : ∃ _ : Unit, _)) fun _ => ?_
   refine J.app <| Ef 4 E2 (Zc E2 ce70 Tk1 (fun F' hle hr => Spec.lendSl (e := 5) (z := 1) (enc := bytE) (xs := x.l) (a := x.a) (c := x.c) (fun _ => rfl) (fun F2 hle2 h2 => newR F2 hxl h2))) ?_
   rintro _ _ ⟨_, ⟨_, ⟨rb2, rfl, rfl⟩, rfl⟩, rfl⟩
   refine J.app <| Qp 5 E2 (QP.build (l := PacketPiece.enc ⟨some ⟨rb2, 0, none⟩, Tlv.zero, false⟩) rfl st185 rfl (by exact ⟨rfl, trivial⟩) rfl) <| Ef 6 E2 (EF.boxA rfl rfl) ?_
   rintro _ _ ⟨b40, rfl, rfl⟩
   refine Sg 7 E3 <| Zl hk7 <| Zs fun _ hk8 => Mv 0 E3 <| Qp 1 E2 (Zn E2) <| Fa 2 E3 f185_0 <| Qq 3 E2 (Z1 E2 g175 (PacketPiece.sub_reader _)) ?_
   refine Ef 4 E2 (Zc E2 ce71 Tk1 (fun F' hle hr => u8_spec F' (r := (⟨x.l, 0⟩ : Rs)))) ?_
   rintro _ _ ⟨_, ⟨rfl, rfl⟩, rfl⟩
   refine J.app <| Sg 5 E3 <| Zl hk8 <| Zs fun _ hk9 => Mv 0 E3 <| Mv 1 E3 <| Mv 2 E3 <| Mv 3 E3 <| Qp 4 E2 (QP.const (.agg (Bs.enc (⟨[0, 0, 0, 0, 0, 0, 0, 0, 0, 0, 0, 0, 0, 0, 0, 0], rfl⟩ : Bs 16)).toArray) (fun _ _ => by kernel_rfl)) <| Ef 5 E2 (Zc E2 ce114 Tk2 (fun F' hle hr => prefix_spec F' (t := Tlv.zero) (bad := false) (r := (rdTake ⟨x.l, 0⟩ 1).2) ae (u8F ⟨x.l, 0⟩) 0 (Bs.zero 16) (u8_range _) (by decide))) ?_
   rintro _ _ ⟨_, ⟨rfl, rfl⟩, rfl⟩
   refine J.app ?_
   generalize hPF : prefF ae (u8F ⟨x.l, 0⟩) 0 (Bs.zero 16) (rdTake ⟨x.l, 0⟩ 1).2 false = PF
   refine Qp 6 E2 (Zn E2) <| Fa 7 E3 f185_1 <| Fa 8 E3 f49_11 <| Fa 9 E3 f46_1 <| Ac 10 rfl (EF.storeA rfl rfl rfl z44 ((PacketPiece.set_tlv _ _).trans (PacketPiece.sub_tlv _) ((Tlv.set_pair _ _).trans (Tlv.sub_pair _) (Pair.set_src _ _))) (Prefix.enc_cell _)) ?_
   rintro _ _ rfl
   refine Zl hk9 <| Run.region <| Mv 0 E3 <| Mv 1 E3 <| Ef 2 E2 (Zc E2 ce83 Tk2 (fun F' hle hr => sound_spec F' (bad := PF.2.2) (r := PF.2.1))) ?_
   rintro _ _ ⟨_, ⟨rfl, rfl⟩, rfl⟩
   refine J.app <| J.caseB (fun c58 => ?_) (fun c58 => ?_)
   ·refine Mv 3 E3 <| Ym 4 E4 <| Yp 5 E3 (QP.gtr rfl rfl rfl) <| J.caseD (fun c61 => ?_) (fun c61 => ?_)
    ·refine Pt 6 E4 <| Mv 7 E3 <| Ym 8 E4 <| Yp 9 E3 (Zn E2) <| Yf 10 E4 f185_1 <| Yf 11 E4 f49_11 <| Yq 12 E3 (Z0 E2 g46 ((PacketPiece.sub_tlv _).trans (Tlv.sub_pair _))) ?_
     refine Ye 13 E3 (Zc E2 ce123 TN (fun F' hle hr => checkPair_spec F' (⟨dst, PF.1⟩ : Pair))) ?_
     rintro _ _ ⟨_, ⟨rfl, rfl⟩, rfl⟩
     refine J.app <| Yp 14 E3 (Ze E3) <| Pt 15 E4 <| Ef 16 E2 (Zc E2 ce111 Tk2 (fun F' hle hr => need_spec F' (bad := (sb.2.2 || !(decide ((rs.length : Int) ≤ 1)))) (decide (ernoB (checkPairB ⟨dst, PF.1⟩) = 0)))) ?_
     rintro _ _ ⟨_, ⟨rfl, rfl⟩, rfl⟩
     refine J.app <| Sq.nil ?_
     have hp : pairF ae dst bad r = (⟨dst, PF.1⟩, sb.2.1, (sb.2.2 || !(decide ((rs.length : Int) ≤ 1))) || !(decide (ernoB (checkPairB ⟨dst, PF.1⟩) = 0))) := by
       have hN : decide (rest0.length = 0) = (decide ((rs.length : Int) ≤ 1)) := decide_eq_decide.2 (by rw [hcons]; simp only [List.length_cons]; omega)
       unfold pairF
       rw [hsb, ← hrs, hcons]
       simp only [List.map_cons, rawM, List.length_map]
       rw [hN, if_neg (by rw [c27]; simp), hPF]
       have h9 : (soundB PF.2.2 PF.2.1 && (decide (0 < u8F ⟨x.l, 0⟩) && checkPairB ⟨dst, PF.1⟩)) = (decide (ernoB (checkPairB ⟨dst, PF.1⟩) = 0)) := by rw [c58, decide_eq_true (show 0 < u8F ⟨x.l, 0⟩ from c61)]; cases checkPairB ⟨dst, PF.1⟩ <;> simp [ernoB]
       rw [h9, hcons]
     rw [hp]
     exact J.ends (res_none rfl) Tk2 ⟨rfl, rfl⟩
    ·refine Pt 6 E4 <| Mv 7 E3 <| Sk 8 E3 <| Sk 9 E3 <| Sk 10 E3 <| Sk 11 E3 <| Sk 12 E3 <| Sk 13 E3 <| Sk 14 E3 <| Pf 15 E4 <| Ef 16 E2 (Zc E2 ce111 Tk2 (fun F' hle hr => need_spec F' (bad := (sb.2.2 || !(decide ((rs.length : Int) ≤ 1)))) false)) ?_
     rintro _ _ ⟨_, ⟨rfl, rfl⟩, rfl⟩
     refine J.app <| Sq.nil ?_
     have hp : pairF ae dst bad r = (⟨dst, PF.1⟩, sb.2.1, (sb.2.2 || !(decide ((rs.length : Int) ≤ 1))) || !false) := by
       have hN : decide (rest0.length = 0) = (decide ((rs.length : Int) ≤ 1)) := decide_eq_decide.2 (by rw [hcons]; simp only [List.length_cons]; omega)
       unfold pairF
       rw [hsb, ← hrs, hcons]
       simp only [List.map_cons, rawM, List.length_map]
       rw [hN, if_neg (by rw [c27]; simp), hPF]
       have h9 : (soundB PF.2.2 PF.2.1 && (decide (0 < u8F ⟨x.l, 0⟩) && checkPairB ⟨dst, PF.1⟩)) = false := by rw [c58, decide_eq_false (show ¬ 0 < u8F ⟨x.l, 0⟩ from c61)]; simp
       rw [h9, hcons]
     rw [hp]
     exact J.ends (res_none rfl) Tk2 ⟨rfl, rfl⟩
   ·refine Mv 3 E3 <| Sk 4 E3 <| Sk 5 E3 <| Pf 6 E4 <| Mv 7 E3 <| Sk 8 E3 <| Sk 9 E3 <| Sk 10 E3 <| Sk 11 E3 <| Sk 12 E3 <| Sk 13 E3 <| Sk 14 E3 <| Pf 15 E4 <| Ef 16 E2 (Zc E2 ce111 Tk2 (fun F' hle hr => need_spec F' (bad := (sb.2.2 || !(decide ((rs.length : Int) ≤ 1)))) false)) ?_
    rintro _ _ ⟨_, ⟨rfl, rfl⟩, rfl⟩
    refine J.app <| Sq.nil ?_
    have hp : pairF ae dst bad r = (⟨dst, PF.1⟩, sb.2.1, (sb.2.2 || !(decide ((rs.length : Int) ≤ 1))) || !false) := by
      have hN : decide (rest0.length = 0) = (decide ((rs.length : Int) ≤ 1)) := decide_eq_decide.2 (by rw [hcons]; simp only [List.length_cons]; omega)
      unfold pairF
      rw [hsb, ← hrs, hcons]
      simp only [List.map_cons, rawM, List.length_map]
      rw [hN, if_neg (by rw [c27]; simp), hPF]
      have h9 : (soundB PF.2.2 PF.2.1 && (decide (0 < u8F ⟨x.l, 0⟩) && checkPairB ⟨dst, PF.1⟩)) = false := by rw [c58]; simp
      rw [h9, hcons]
    rw [hp]
    exact J.ends (res_none rfl) Tk2 ⟨rfl, rfl⟩
 ·refine Qp 2 E2 (Zu E2) <| Mv 3 E3 <| Sk 4 E3 <| Sk 5 E3 <| Sk 6 E3 <| Pt 7 E4 <| Zl hk6 <| Zt <| Run.ret ?_
  have hp : pairF ae dst bad r = (⟨dst, anyB (pfamilyB dst)⟩, sb.2.1, sb.2.2 || !(decide ((rs.length : Int) ≤ 1))) := by
    unfold pairF
    rw [hsb]
    cases hk : sb.1 with
    | nil => rw [hk] at hrs; rw [show (decide ((rs.length : Int) ≤ 1)) = true from decide_eq_true (by rw [List.map_eq_nil_iff.1 hrs]; simp)]; simp
    | cons y l => rw [hk] at hrs; have hl := congrArg List.length hrs; rw [List.length_map, List.length_cons] at hl; dsimp only; rw [show decide (l.length = 0) = (decide ((rs.length : Int) ≤ 1)) from decide_eq_decide.2 (by omega), if_pos c27]
  rw [hp]
  exact J.ends (res_none rfl) Tk2 ⟨rfl, rfl⟩
end Slb
