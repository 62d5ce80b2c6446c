/- J8: a part of the proof that a law of this package holds for every input; no condition. -/
import Derived.Test.YtfokodhfjdhdaaaGreatM2
import Derived.Test.YtfokodhfjdhdaaaGreatJ7
namespace Slb
open Go Go.Proofs
set_option maxRecDepth 20000
def idF (r : Rs) : Bs 8 := (Bs.zero 8).patch 0 (rdTake r 8).1
def reqHead (ae : Int) (t : Tlv) (r : Rs) (bad : Bool) : Tlv × Rs × Bool :=
 if t.type = 10 then
   ({ t with seqno := u16F r, hops := u8F (rdTake r 2).2, id_ := idF (rdTake (rdTake (rdTake r 2).2 1).2 1).2 }, (rdTake (rdTake (rdTake (rdTake r 2).2 1).2 1).2 8).2,
     bad || !(decide (ae ≠ 0) && (decide (u8F (rdTake r 2).2 ≠ 0) && decide (idF (rdTake (rdTake (rdTake r 2).2 1).2 1).2 ≠ Bs.zero 8))))
 else (t, r, bad)
def reqTail (ae plen : Int) (t : Tlv) (r : Rs) (bad : Bool) : Tlv × Rs × Bool :=
 if ae = 0 then
   if plen = 0 then ({ t with all := true }, (subsF [128] bad r).2.1, (subsF [128] bad r).2.2 || !decide ((subsF [128] bad r).1 = []))
   else ({ t with all := true }, r, true)
 else
   if soundB (prefF ae plen 0 (Bs.zero 16) r bad).2.2 (prefF ae plen 0 (Bs.zero 16) r bad).2.1 = true then
     ({ t with pair := (pairF ae (prefF ae plen 0 (Bs.zero 16) r bad).1 (prefF ae plen 0 (Bs.zero 16) r bad).2.2 (prefF ae plen 0 (Bs.zero 16) r bad).2.1).1 },
       (pairF ae (prefF ae plen 0 (Bs.zero 16) r bad).1 (prefF ae plen 0 (Bs.zero 16) r bad).2.2 (prefF ae plen 0 (Bs.zero 16) r bad).2.1).2.1, (pairF ae (prefF ae plen 0 (Bs.zero 16) r bad).1 (prefF ae plen 0 (Bs.zero 16) r bad).2.2 (prefF ae plen 0 (Bs.zero 16) r bad).2.1).2.2)
   else (t, (prefF ae plen 0 (Bs.zero 16) r bad).2.1, (prefF ae plen 0 (Bs.zero 16) r bad).2.2)
def reqF (t : Tlv) (r : Rs) (bad : Bool) : Tlv × Rs × Bool :=
 reqTail (u8F r) (u8F (rdTake r 1).2) (reqHead (u8F r) t (rdTake (rdTake r 1).2 1).2 bad).1 (reqHead (u8F r) t (rdTake (rdTake r 1).2 1).2 bad).2.1 (reqHead (u8F r) t (rdTake (rdTake r 1).2 1).2 bad).2.2
theorem take_few {r : Rs} (n : Int) (h : r.l.length ≤ 1000000) : (rdTake r n).2.l.length ≤ 1000000 := Nat.le_trans (rdTake_len r n).2 h
theorem pref_few {ae plen om : Int} {base : Bs 16} {bad : Bool} {r : Rs} (h : r.l.length ≤ 1000000) : (prefF ae plen om base r bad).2.1.l.length ≤ 1000000 := by
 unfold prefF
 split
 · exact h
 · exact take_few _ h
theorem head_few {ae : Int} {t : Tlv} {r : Rs} {bad : Bool} (h : r.l.length ≤ 1000000) : (reqHead ae t r bad).2.1.l.length ≤ 1000000 := by
 unfold reqHead
 split
 · exact take_few _ (take_few _ (take_few _ (take_few _ h)))
 · exact h

set_option maxHeartbeats 3000000 in
theorem request_spec (F : Fr) {b rb : Nat} {t : Tlv} {bad : Bool} {r : Rs} (hrl : r.l.length ≤ 1000000)  : Spec Tryz.prog 81 #[fp b] [blk b (PacketPiece.enc ⟨some ⟨rb, 0, none⟩, t, bad⟩) 185, RdA rb r] F (fun v S => v = .tuple #[] ∧ S = [blk b (PacketPiece.enc ⟨some ⟨rb, 0, none⟩, (reqF t r bad).1, (reqF t r bad).2.2⟩) 185, RdA rb (reqF t r bad).2.1]) := by
 obtain ⟨r1, hr1⟩ : ∃ x, (rdTake r 1).2 = x := ⟨_, rfl⟩
 obtain ⟨r2, hr2⟩ : ∃ x, (rdTake r1 1).2 = x := ⟨_, rfl⟩
 obtain ⟨ae, hae⟩ : ∃ x, u8F r = x := ⟨_, rfl⟩
 obtain ⟨plen, hpl⟩ : ∃ x, u8F r1 = x := ⟨_, rfl⟩
 have haer := u8_range r
 rw [hae] at haer
 have hplr := u8_range r1
 rw [hpl] at hplr
 have hr2l : r2.l.length ≤ 1000000 := by rw [← hr2, ← hr1]; exact take_few _ (take_few _ hrl)
 refine Spec.intro (N := 99) (args := [fp b]) Tryz.func81 rfl rfl (by simp) ?_
 refine Run.seq fun _ hk1 => Run.regionM (M := [0, 1, 3, 7, 15, 0, 32, 96, 224, 511, 1023, 2047]) (q := 495) (r := 264) mixedT Kr ?_
 refine Dp 0 E2 (Zm E2) <| Dp 1 E2 (Zn E2) <| Dp 2 E2 (Za E2 f185_0) <| Dr 3 E2 (Z1 E2 g175 (PacketPiece.sub_reader _)) ?_
 refine Dp 5 E2 (Zm E2) <| Dp 6 E2 (Zn E2) <| Dp 7 E2 (Za E2 f185_0) <| Dr 8 E2 (Z1 E2 g175 (PacketPiece.sub_reader _)) ?_
 refine De 4 <| Om [8] rfl rfl (Zc E2 ce71 Tk1 (fun F' hle hr => u8_spec F' (r := r))) ?_
 rintro _ _ ⟨_, ⟨rfl, rfl⟩, rfl⟩
 refine ⟨?_, ?_⟩
 ·rw [FM]
  refine ⟨?_, NO⟩
  ·refine Look.app ?_
   exact Lk E3 (Z1 E2 g175 (PacketPiece.sub_reader _))
 refine ?_
 refine J.app ?_
 rw [hae, hr1]
 refine De 9 <| Om [] rfl rfl (Zc E2 ce71 Tk1 (fun F' hle hr => u8_spec F' (r := r1))) ?_
 rintro _ _ ⟨_, ⟨rfl, rfl⟩, rfl⟩
 refine N0 <| J.app ?_
 rw [hpl, hr2]
 refine De 10 <| Om [] rfl rfl ((Zg E2).eff) ?_
 rintro _ _ ⟨rfl, rfl⟩
 refine N0 <| De 11 <| Om [] rfl rfl ((Zg E2).eff) ?_
 rintro _ _ ⟨rfl, rfl⟩
 refine N0 <| Dn <| hk1 _ _ <| Run.cut3 (fun (t1 : Tlv) (r6 : Rs) (bad1 : Bool) => (t1, r6, bad1) = (reqHead ae t r2 bad)) (fun t1 r6 bad1 => .cons 0 (fp b) (.cons 2 (.int .u8 ae) (.cons 3 (.int .u8 plen) (.nil)))) (fun t1 r6 bad1 => [blk b (PacketPiece.enc ⟨some ⟨rb, 0, none⟩, t1, bad1⟩) 185, RdA rb r6]) ?_ ?_
 ·rintro t1 r6 bad1 h6
  have hr6l : r6.l.length ≤ 1000000 := by have := head_few (ae := ae) (t := t) (r := r2) (bad := bad) hr2l; rw [← h6] at this; exact this
  refine Run.seq fun _ hk3 => Zs fun _ hk4 => Mv 0 E3 <| Qp 1 E2 (Ze E3) <| J.caseD (fun c72 => ?_) (fun c72 => ?_)
  ·refine Zl hk4 <| Zt <| Zs fun _ hk5 => Mv 0 E3 <| Qp 1 E2 (Zn E2) <| Fa 2 E3 f185_1 <| Fa 3 E3 f49_8 <| Ac 4 rfl (EF.store rfl rfl rfl z4 ((PacketPiece.set_tlv _ _).trans (PacketPiece.sub_tlv _) (Tlv.set_all _ _)) (cell_one rfl)) ?_
   rintro _ _ rfl
   refine Zl hk5 <| Zs fun _ hk6 => Mv 0 E3 <| Mv 1 E3 <| Qp 2 E2 (Ze E3) <| J.caseD (fun c79 => ?_) (fun c79 => ?_)
   ·refine Mv 3 E3 <| Ym 4 E4 <| Ye 5 E3 (EF.buildSliceS rfl Tryz.underlying75 z5 zero5 rfl (by decide) rfl rfl rfl rfl) ?_
    rintro _ _ ⟨b82, rfl, rfl⟩
    refine Ye 6 E3 (Zc E2 ce77 Tk2 (fun F' hle hr => subs_spec F' (t := { t1 with all := true }) (bad := bad1) (r := r6) (ts := [128]) (by simp) (argSl_all (enc := bytE) (xs := [128]) (fun _ => rfl) (hr b82 _ Rc)) hr6l)) ?_
    rintro v83 _ ⟨_, ⟨rs, rfl, hrs, hrn, hrf⟩, rfl⟩
    refine J.app ?_
    generalize hsb : subsF [128] bad1 r6 = sb at hrs ⊢
    refine Sq.slCase (v := v83) (xs := rs) Rc (fun a83 c83 hv83 hh83 => ?_)
    subst hv83
    refine Yp 7 E3 (QP.len rfl rfl rfl Tryz.underlying133) <| Yp 8 E3 (Ze E3) <| Pt 9 E4 <| Ef 10 E2 (Zc E2 ce111 Tk2 (fun F' hle hr => need_spec F' (t := { t1 with all := true }) (bad := sb.2.2) (r := sb.2.1) (decide ((rs.length : Int) = 0)))) ?_
    rintro _ _ ⟨_, ⟨rfl, rfl⟩, rfl⟩
    refine J.app <| Zl hk6 <| Run.ret ?_
    have hF : reqF t r bad = ({ t1 with all := true }, sb.2.1, sb.2.2 || !(decide ((rs.length : Int) = 0))) := by
      unfold reqF
      rw [hae, hr1, hpl, hr2, ← h6]
      unfold reqTail
      rw [if_pos c72, if_pos c79, hsb, show decide (sb.1 = []) = decide ((rs.length : Int) = 0) from decide_eq_decide.2 (by rw [← hrs, List.map_eq_nil_iff, ← List.length_eq_zero_iff]; omega)]
    rw [hF]
    exact J.ends (res_none rfl) Tk2 ⟨rfl, rfl⟩
   ·refine Mv 3 E3 <| Sk 4 E3 <| Sk 5 E3 <| Sk 6 E3 <| Sk 7 E3 <| Sk 8 E3 <| Pf 9 E4 <| Ef 10 E2 (Zc E2 ce111 Tk2 (fun F' hle hr => need_spec F' (t := { t1 with all := true }) (bad := bad1) (r := r6) false)) ?_
    rintro _ _ ⟨_, ⟨rfl, rfl⟩, rfl⟩
    refine J.app <| Zl hk6 <| Run.ret ?_
    have hF : reqF t r bad = ({ t1 with all := true }, r6, bad1 || !false) := by
      unfold reqF
      rw [hae, hr1, hpl, hr2, ← h6]
      unfold reqTail
      rw [if_pos c72, if_neg c79]; simp
    rw [hF]
    exact J.ends (res_none rfl) Tk2 ⟨rfl, rfl⟩
  ·refine Zl hk4 <| Zf <| Run.skip <| hk3 _ _ <| Zs fun _ hk7 => Mv 0 E3 <| Mv 1 E3 <| Mv 2 E3 <| Qp 3 E2 (QP.const (.agg (Bs.enc (⟨[0, 0, 0, 0, 0, 0, 0, 0, 0, 0, 0, 0, 0, 0, 0, 0], rfl⟩ : Bs 16)).toArray) (fun _ _ => by kernel_rfl)) <| Ef 4 E2 (Zc E2 ce114 Tk2 (fun F' hle hr => prefix_spec F' (t := t1) (bad := bad1) (r := r6) ae plen 0 (Bs.zero 16) hplr (by decide))) ?_
   rintro _ _ ⟨_, ⟨rfl, rfl⟩, rfl⟩
   refine J.app ?_
   have hPl := pref_few (ae := ae) (plen := plen) (om := 0) (base := Bs.zero 16) (bad := bad1) hr6l
   generalize hPF : prefF ae plen 0 (Bs.zero 16) r6 bad1 = PF at hPl ⊢
   refine Ef 5 E2 (EF.allocA (l := Prefix.enc Prefix.zero) rfl zero44) ?_
   rintro _ _ ⟨b4, rfl, rfl⟩
   refine Ac 6 rfl (EF.storeA rfl rfl rfl z44 (SetL.all (Prefix.enc_len _) (Prefix.enc_len _)) (Prefix.enc_cell _)) ?_
   rintro _ _ rfl
   refine Zl hk7 <| Zs fun _ hk8 => Mv 0 E3 <| Ef 1 E2 (Zc E2 ce83 Tk2 (fun F' hle hr => sound_spec F' (t := t1) (bad := PF.2.2) (r := PF.2.1))) ?_
   rintro _ _ ⟨_, ⟨rfl, rfl⟩, rfl⟩
   refine J.app <| J.caseB (fun c94 => ?_) (fun c94 => ?_)
   ·refine Zl hk8 <| Zt <| Run.region <| Mv 0 E3 <| Mv 1 E3 <| Qq 2 E2 (Z0 E2 g44 (Prefix.enc_sub _)) ?_
    refine Ef 3 E2 (Zc E2 ce115 Tk2 (fun F' hle hr => pair_spec F' (t := t1) (bad := PF.2.2) (r := PF.2.1) ae PF.1 haer hPl)) ?_
    rintro _ _ ⟨_, ⟨rfl, rfl⟩, rfl⟩
    refine J.app <| Sq.nil ?_
    have hF : reqF t r bad = ({ t1 with pair := (pairF ae PF.1 PF.2.2 PF.2.1).1 }, (pairF ae PF.1 PF.2.2 PF.2.1).2.1, (pairF ae PF.1 PF.2.2 PF.2.1).2.2) := by
      unfold reqF
      rw [hae, hr1, hpl, hr2, ← h6]
      unfold reqTail
      rw [if_neg c72, hPF, if_pos c94]
    rw [hF]
    exact J.ends (res_none rfl) Tk2 ⟨rfl, rfl⟩
   ·refine Zl hk8 <| Zf <| Run.skip ?_
    have hF : reqF t r bad = (t1, PF.2.1, PF.2.2) := by
      unfold reqF
      rw [hae, hr1, hpl, hr2, ← h6]
      unfold reqTail
      rw [if_neg c72, hPF, if_neg (by rw [c94]; simp)]
    rw [hF]
    exact J.ends (res_none rfl) Tk2 ⟨rfl, rfl⟩
 ·intro ku2 hu2
  refine Zs fun _ hk9 => Mv 0 E3 <| Qp 1 E2 (Zn E2) <| Fa 2 E3 f185_1 <| Fa 3 E3 f49_0 <| Qq 4 E2 (Z1 E2 g5 ((PacketPiece.sub_tlv _).trans (Tlv.sub_type _))) ?_
  refine Qp 5 E2 (Ze E3) <| J.caseD (fun c20 => ?_) (fun c20 => ?_)
  ·refine Zl hk9 <| Zt <| Run.seq fun _ hk10 => Run.regionM (M := [0, 0, 0, 4, 12, 28, 60, 0, 128, 384, 896, 2044, 4093, 8189, 16381, 32765, 65535, 131071, 262143, 524287]) (q := 489407) (r := 1056) mixedT Kr ?_
   refine Dp 0 E2 (Zm E2) <| Dp 1 E2 (Zm E2) <| Dp 2 E2 (Zm E2) <| Dp 3 E2 (Zn E2) <| Dp 4 E2 (Za E2 f185_0) <| Dr 5 E2 (Z1 E2 g175 (PacketPiece.sub_reader _)) ?_
   refine Dp 7 E2 (Zm E2) <| Dp 8 E2 (Zn E2) <| Dp 9 E2 (Za E2 f185_0) <| Dr 10 E2 (Z1 E2 g175 (PacketPiece.sub_reader _)) ?_
   refine De 6 <| Om [10] rfl rfl (Zc E2 ce72 Tk1 (fun F' hle hr => u16_spec F' (r := r2))) ?_
   rintro _ _ ⟨_, ⟨rfl, rfl⟩, rfl⟩
   refine ⟨?_, ?_⟩
   ·rw [FM]
    refine ⟨?_, NO⟩
    ·refine Look.app ?_
     exact Lk E3 (Z1 E2 g175 (PacketPiece.sub_reader _))
   refine ?_
   refine J.app ?_
   generalize hr3 : (rdTake r2 2).2 = r3
   refine De 11 <| Om [] rfl rfl (Zc E2 ce71 Tk1 (fun F' hle hr => u8_spec F' (r := r3))) ?_
   rintro _ _ ⟨_, ⟨rfl, rfl⟩, rfl⟩
   refine N0 <| J.app ?_
   generalize hr4 : (rdTake r3 1).2 = r4
   refine Dp 12 E2 (Zn E2) <| Dp 13 E2 (Za E2 f185_1) <| Dp 14 E2 (Za E2 f49_3) <| De 15 <| Oa [] rfl (EF.store rfl rfl rfl z40 ((PacketPiece.set_tlv _ _).trans (PacketPiece.sub_tlv _) (Tlv.set_seqno _ _)) (cell_one rfl)) ?_
   rintro _ _ rfl
   refine N0 <| Dp 16 E2 (Zn E2) <| Dp 17 E2 (Za E2 f185_1) <| Dp 18 E2 (Za E2 f49_6) <| De 19 <| Oa [] rfl (EF.store rfl rfl rfl z5 ((PacketPiece.set_tlv _ _).trans (PacketPiece.sub_tlv _) (Tlv.set_hops _ _)) (cell_one rfl)) ?_
   rintro _ _ rfl
   refine N0 <| Dn <| hk10 _ _ <| Zs fun _ hk11 => Mv 0 E3 <| Qp 1 E2 (Zn E2) <| Fa 2 E3 f185_0 <| Qq 3 E2 (Z1 E2 g175 (PacketPiece.sub_reader _)) ?_
   refine Ef 4 E2 (Zc E2 ce71 Tk1 (fun F' hle hr => u8_spec F' (r := r4))) ?_
   rintro _ _ ⟨_, ⟨rfl, rfl⟩, rfl⟩
   refine J.app ?_
   generalize hr5 : (rdTake r4 1).2 = r5
   refine Zl hk11 <| Zs fun _ hk12 => Mv 0 E3 <| Mv 1 E3 <| Ef 2 E2 (Zc E2 ce117 Tk2 (fun F' hle hr => id_spec F' (bad := bad) (r := r5))) ?_
   rintro _ _ ⟨_, ⟨rfl, rfl⟩, rfl⟩
   refine J.app <| Qp 3 E2 (Zn E2) <| Fa 4 E3 f185_1 <| Fa 5 E3 f49_9 <| Ac 6 rfl (EF.storeA rfl rfl rfl z42 ((PacketPiece.set_tlv _ _).trans (PacketPiece.sub_tlv _) (Tlv.set_id_ _ _)) (Bs.cell _)) ?_
   rintro _ _ rfl
   refine Zl hk12 <| Run.region <| Mv 0 E3 <| Mv 1 E3 <| Qp 2 E2 (Zq E3) <| J.caseD (fun c52 => ?_) (fun c52 => ?_)
   ·refine Mv 3 E3 <| Ym 4 E4 <| Yp 5 E3 (Zn E2) <| Yf 6 E4 f185_1 <| Yf 7 E4 f49_6 <| Yq 8 E3 (Z1 E2 g5 ((PacketPiece.sub_tlv _).trans (Tlv.sub_hops _))) ?_
    refine Yp 9 E3 (Zq E3) <| J.caseD (fun c59 => ?_) (fun c59 => ?_)
    ·refine Pt 10 E4 <| Mv 11 E3 <| Ym 12 E4 <| Yp 13 E3 (Zn E2) <| Yf 14 E4 f185_1 <| Yf 15 E4 f49_9 <| Yq 16 E3 (Z0 E2 g42 ((PacketPiece.sub_tlv _).trans (Tlv.sub_id_ _))) ?_
     refine Yp 17 E3 (QP.const (.agg (Bs.enc (⟨[0, 0, 0, 0, 0, 0, 0, 0], rfl⟩ : Bs 8)).toArray) (fun _ _ => by kernel_rfl)) <| Yp 18 E3 (QP.neq_agg eq42 rfl rfl rfl) <| Pt 19 E4 <| Ef 20 E2 (Zc E2 ce111 Tk2 (fun F' hle hr => need_spec F' (bad := bad) (r := (rdTake r5 8).2) (decide (idF r5 ≠ Bs.zero 8)))) ?_
     rintro _ _ ⟨_, ⟨rfl, rfl⟩, rfl⟩
     exact J.app <| Sq.nil <| J.envJ (J.keep Tk2 (hu2 (({ t with seqno := u16F r2, hops := u8F r3, id_ := idF r5 } : Tlv)) ((rdTake r5 8).2) ((bad || !(decide (idF r5 ≠ Bs.zero 8)))) (by unfold reqHead; rw [if_pos c20, hr3, hr4, hr5, decide_eq_true (show ae ≠ 0 from c52), decide_eq_true (show u8F r3 ≠ 0 from c59)]; simp))) ⟨rfl, rfl, rfl, trivial⟩
    ·refine Pt 10 E4 <| Mv 11 E3 <| Sk 12 E3 <| Sk 13 E3 <| Sk 14 E3 <| Sk 15 E3 <| Sk 16 E3 <| Sk 17 E3 <| Sk 18 E3 <| Pf 19 E4 <| Ef 20 E2 (Zc E2 ce111 Tk2 (fun F' hle hr => need_spec F' (bad := bad) (r := (rdTake r5 8).2) false)) ?_
     rintro _ _ ⟨_, ⟨rfl, rfl⟩, rfl⟩
     exact J.app <| Sq.nil <| J.envJ (J.keep Tk2 (hu2 (({ t with seqno := u16F r2, hops := u8F r3, id_ := idF r5 } : Tlv)) ((rdTake r5 8).2) ((bad || !false)) (by unfold reqHead; rw [if_pos c20, hr3, hr4, hr5, decide_eq_true (show ae ≠ 0 from c52), decide_eq_false (show ¬ u8F r3 ≠ 0 from c59)]; simp))) ⟨rfl, rfl, rfl, trivial⟩
   ·refine Mv 3 E3 <| Sk 4 E3 <| Sk 5 E3 <| Sk 6 E3 <| Sk 7 E3 <| Sk 8 E3 <| Sk 9 E3 <| Pf 10 E4 <| Mv 11 E3 <| Sk 12 E3 <| Sk 13 E3 <| Sk 14 E3 <| Sk 15 E3 <| Sk 16 E3 <| Sk 17 E3 <| Sk 18 E3 <| Pf 19 E4 <| Ef 20 E2 (Zc E2 ce111 Tk2 (fun F' hle hr => need_spec F' (bad := bad) (r := (rdTake r5 8).2) false)) ?_
    rintro _ _ ⟨_, ⟨rfl, rfl⟩, rfl⟩
    exact J.app <| Sq.nil <| J.envJ (J.keep Tk2 (hu2 (({ t with seqno := u16F r2, hops := u8F r3, id_ := idF r5 } : Tlv)) ((rdTake r5 8).2) ((bad || !false)) (by unfold reqHead; rw [if_pos c20, hr3, hr4, hr5, decide_eq_false (show ¬ ae ≠ 0 from c52)]; simp))) ⟨rfl, rfl, rfl, trivial⟩
  ·exact Zl hk9 <| Zf <| Run.skip <| J.envJ (J.keep Tk2 (hu2 (t) (r2) (bad) (by unfold reqHead; rw [if_neg c20]))) ⟨rfl, rfl, rfl, trivial⟩
end Slb
