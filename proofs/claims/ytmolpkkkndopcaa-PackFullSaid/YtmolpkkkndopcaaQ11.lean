/- Q11: a part of the proof that a law of this package holds for every input; no condition. -/
import Derived.Test.YtmolpkkkndopcaaM2
import Derived.Test.YtmolpkkkndopcaaQ10
namespace Slb
open Go Go.Proofs
set_option maxRecDepth 20000
theorem Tlv.with_zero {t : Tlv} (h : t.stamps = Slc.zero) : ({ t with stamps := Slc.zero } : Tlv) = t := by
  cases t
  simp only at h
  rw [h]
theorem ite_st {c : Prop} [Decidable c] {a b : Tlv × Rs × Bool} {s : Slc} (ha : a.1.stamps = s) (hb : b.1.stamps = s) : (if c then a else b).1.stamps = s := by split <;> assumption
theorem ite_st2 {c : Prop} [Decidable c] {a b : (Tlv × Rs × Bool) × PrS} {s : Slc} (ha : a.1.1.stamps = s) (hb : b.1.1.stamps = s) : (if c then a else b).1.1.stamps = s := by split <;> assumption
theorem upd_stamps (x : PrS) (t : Tlv) (r : Rs) (bad : Bool) : (updF x t r bad).1.1.stamps = t.stamps := by
  have h : ∀ (x : PrS) (pr : Pair × Rs × Bool) (p : Prefix) (t : Tlv), (updH x pr p t).1.stamps = t.stamps := by
    intro x pr p t
    unfold updH
    exact ite_st rfl (ite_st rfl rfl)
  have h2 : ∀ (x : PrS) (ae fl plen om : Int) (t : Tlv) (r : Rs) (bad : Bool), (updG x ae fl plen om t r bad).1.1.stamps = t.stamps := by
    intro x ae fl plen om t r bad
    unfold updG
    exact ite_st2 (ite_st2 rfl rfl) (ite_st2 rfl (h _ _ _ _))
  exact h2 _ _ _ _ _ _ _ _
theorem req_stamps (t : Tlv) (r : Rs) (bad : Bool) : (reqF t r bad).1.stamps = t.stamps := by
  unfold reqF
  have h : ∀ (a b : Int) (t : Tlv) (r : Rs) (c : Bool), (reqTail a b t r c).1.stamps = t.stamps := by
    intro a b t r c
    unfold reqTail
    split
    · split <;> rfl
    · split <;> rfl
  rw [h]
  unfold reqHead
  split <;> rfl
def tlv0 (rt : Int) : Tlv := { Tlv.zero with type := rt }
/-- What a piece says. -/
def readF (x : PrS) (rt : Int) (body : List UInt8) : (Tlv × Bool × List Int) × PrS :=
  let r0 : Rs := ⟨body, 0⟩
  let q1 := (rdTake r0 2).2
  let q2 := (rdTake q1 2).2
  let q3 := (rdTake q2 2).2
  let p2 := (rdTake (rdTake r0 1).2 1).2
  let p3 := (rdTake p2 2).2
  let p4 := (rdTake p3 2).2
  if rt = 2 then (({ tlv0 rt with nonce := u16F q1, interval := u16F q2 }, soundB (subsF [] false q3).2.2 (subsF [] false q3).2.1, []), x)
  else if rt = 3 then (({ tlv0 rt with nonce := u16F r0 }, soundB (subsF [] false q1).2.2 (subsF [] false q1).2.1, []), x)
  else if rt = 4 then (({ tlv0 rt with unicast := decide (and16 (u16F r0) 32768 ≠ 0), seqno := u16F q1, interval := u16F q2 }, soundB (subsF [3] false q3).2.2 (subsF [3] false q3).2.1, stampL 1 (subsF [3] false q3).1), x)
  else if rt = 5 then (({ tlv0 rt with rxcost := u16F p2, interval := u16F p3, addr := (addrF (u8F r0) p4).1, all := decide (u8F r0 = 0) },
      soundB (subsF [3] (false || (addrF (u8F r0) p4).2.2) (addrF (u8F r0) p4).2.1).2.2 (subsF [3] (false || (addrF (u8F r0) p4).2.2) (addrF (u8F r0) p4).2.1).2.1, stampL 2 (subsF [3] (false || (addrF (u8F r0) p4).2.2) (addrF (u8F r0) p4).2.1).1), x)
  else if rt = 8 then (((updF x (tlv0 rt) r0 false).1.1, soundB (updF x (tlv0 rt) r0 false).1.2.2 (updF x (tlv0 rt) r0 false).1.2.1, []), (updF x (tlv0 rt) r0 false).2)
  else if rt = 9 ∨ rt = 10 then (((reqF (tlv0 rt) r0 false).1, soundB (reqF (tlv0 rt) r0 false).2.2 (reqF (tlv0 rt) r0 false).2.1, []), x)
  else if rt = 6 ∨ rt = 7 then ((Tlv.zero, false, []), (tellF x (tlv0 rt) r0 false).2.2)
  else ((Tlv.zero, false, []), x)
theorem addr_few {ae : Int} {r : Rs} (h : r.l.length ≤ 1000000) : (addrF ae r).2.1.l.length ≤ 1000000 := by
  unfold addrF
  split
  · exact h
  · split
    · exact take_few _ h
    · split
      · exact take_few _ h
      · split
        · exact take_few _ h
        · exact h

set_option maxHeartbeats 6000000 in
theorem read_spec (F : Fr) {xb hm bm : Nat} {idp : Option Addr} (x : PrS) (y : RawX) (hyl : y.l.length ≤ 1000000) (hb : ArgSl F y.a 1 bytE y.l)  : Spec Try.prog 19 #[fp xb, .agg (rawE y).toArray] [blk xb (PacketParser.enc ⟨⟨idp, some hm, some bm⟩⟩) 64, mapH hm x.hops, mapB bm x.bases, idA idp x.id] F (fun v S => ∃ idp2 a2 c2, v = .tuple #[.agg (Tlv.enc { (readF x y.t y.l).1.1 with stamps := ⟨a2, (readF x y.t y.l).1.2.2.length, c2⟩ }).toArray, .bool (readF x y.t y.l).1.2.1] ∧ S = [blk xb (PacketParser.enc ⟨⟨idp2, some hm, some bm⟩⟩) 64, mapH hm (readF x y.t y.l).2.hops, mapB bm (readF x y.t y.l).2.bases, idA idp2 (readF x y.t y.l).2.id, slA 105 1 u32E (.slice a2 (readF x y.t y.l).1.2.2.length c2) (readF x y.t y.l).1.2.2]) := by
 refine Spec.intro (N := 160) (args := [fp xb, .agg (rawE y).toArray]) Try.func19 rfl rfl (by simp) ?_
 refine Run.seq fun k1 hk1 => Run.region ?_
 show Sq _ _ _ [0, 1, 2] _ _ _ _
 refine Ef 0 rfl rfl (EF.boxA rfl rfl) ?_
 rintro _ _ ⟨b3, rfl, rfl⟩
 refine Ef 1 rfl rfl (EF.allocA (l := Tlv.enc Tlv.zero) rfl zero46) ?_
 rintro _ _ ⟨b4, rfl, rfl⟩
 refine Sg 2 rfl rfl rfl <| Sq.nil <| hk1 _ _ <| Run.seq fun k2 hk2 => Run.regionD (M := [0, 1, 3, 0, 8, 24, 63, 127, 255]) (q := 123) (r := 18) Kr ?_
 refine Dp 0 rfl rfl (QP.fieldAddr rfl rfl f69_1) <| Dr 1 rfl rfl (QR.load1 rfl rfl g34 (Raw.sub_body _)) ?_
 refine Dp 3 rfl rfl (QP.fieldAddr rfl rfl f69_0) <| Dr 4 rfl rfl (QR.load1 rfl rfl g5 (Raw.sub_type _)) ?_
 refine Dp 5 rfl rfl (QP.build (l := Tlv.enc (tlv0 y.t)) rfl st46 rfl (by exact ⟨rfl, trivial⟩) rfl) <| De 2 <| Om [4] rfl rfl (EF.call rfl ce29 rfl Takes.nil (fun F' hle hr => newR F' (xs := y.l) (a := y.a) (c := y.c) hyl (hb.mono hle))) ?_
 rintro _ _ ⟨_, ⟨rb, rfl, rfl⟩, rfl⟩
 refine ⟨?_, ?_⟩
 ·rw [List.forall_mem_cons]
  refine ⟨?_, fun _ h => (by cases h)⟩
  ·refine Look.app ?_
   exact Look.mk rfl rfl rfl (QR.load1 rfl rfl g5 (Raw.sub_type _))
 refine ?_
 refine J.app ?_
 refine Dp 6 rfl rfl (QP.build (l := PacketPiece.enc ⟨some ⟨rb, 0, none⟩, (tlv0 y.t), false⟩) rfl st100 rfl (by exact ⟨rfl, ⟨congrArg some (Tlv.enc_len _).symm, trivial⟩⟩) rfl) <| De 7 <| Om [] rfl rfl (EF.boxA rfl rfl) ?_
 rintro _ _ ⟨b15, rfl, rfl⟩
 refine ⟨fun _ h => (by cases h), ?_⟩
 refine De 8 <| Om [] rfl rfl ((QP.assign rfl rfl).eff) ?_
 rintro _ _ ⟨rfl, rfl⟩
 refine ⟨fun _ h => (by cases h), ?_⟩
 refine Dn <| hk2 _ _ <| Run.cut6 (fun (t1 : Tlv) (q : Rs × Bool) (idp2 : Option Addr) (x2 : PrS) (sts : List Int) (sl : Slc) => (({ t1 with stamps := Slc.zero }, soundB q.2 q.1, sts), x2) = readF x y.t y.l ∧ t1.stamps = sl ∧ sl.n = sts.length) (fun t1 q idp2 x2 sts sl => .cons 4 (fp b4) (.cons 6 (fp b15) (.nil))) (fun t1 q idp2 x2 sts sl => [blk b15 (PacketPiece.enc ⟨some ⟨rb, 0, none⟩, t1, q.2⟩) 100, RdA rb q.1, blk xb (PacketParser.enc ⟨⟨idp2, some hm, some bm⟩⟩) 64, mapH hm x2.hops, mapB bm x2.bases, idA idp2 x2.id, slA 105 1 u32E (Slc.v sl) sts, blk b4 (Tlv.enc Tlv.zero) 46]) ?_ ?_
 ·rintro t1 q idp2 x2 sts sl ⟨hI, hsl, hsn⟩
  refine Run.seq fun k4 hk4 => Run.regionM (M := [0, 1, 3, 7, 0, 16, 63, 127]) (q := 31) (r := 8) mixedT Kr ?_
  refine Dp 0 rfl rfl (QP.move rfl rfl) <| Dp 1 rfl rfl (QP.nilCheck rfl rfl) <| Dp 2 rfl rfl (QP.fieldAddr rfl rfl f100_1) <| Dr 3 rfl rfl (QR.load rfl rfl g46 (PacketPiece.sub_tlv _)) ?_
  refine Dp 4 rfl rfl (QP.move rfl rfl) <| De 5 <| Om [3] rfl rfl (EF.call rfl ce42 rfl Tk2 (fun F' hle hr => sound_spec F' (t := t1) (bad := q.2) (r := q.1))) ?_
  rintro _ _ ⟨_, ⟨rfl, rfl⟩, rfl⟩
  refine ⟨?_, ?_⟩
  ·rw [List.forall_mem_cons]
   refine ⟨?_, fun _ h => (by cases h)⟩
   ·refine Look.app ?_
    exact Look.mk rfl rfl rfl (QR.load rfl rfl g46 (PacketPiece.sub_tlv _))
  refine ?_
  refine J.app ?_
  refine De 6 <| Oa [] rfl (EF.storeA rfl rfl rfl z46 (SetL.all (Tlv.enc_len _) (Tlv.enc_len _)) (Tlv.enc_cell _)) ?_
  rintro _ _ rfl
  refine ⟨fun _ h => (by cases h), ?_⟩
  refine De 7 <| Om [] rfl rfl ((QP.assign rfl rfl).eff) ?_
  rintro _ _ ⟨rfl, rfl⟩
  refine ⟨fun _ h => (by cases h), ?_⟩
  refine Dn <| hk4 _ _ <| Run.ret ?_
  obtain ⟨sa, sn, sc⟩ := sl
  simp only at hsn
  subst hsn
  have hv : t1 = ({ (readF x y.t y.l).1.1 with stamps := ⟨sa, sts.length, sc⟩ } : Tlv) := by rw [← hI]; cases t1; simp only at hsl; rw [hsl]
  have h1 : soundB q.2 q.1 = (readF x y.t y.l).1.2.1 := by rw [← hI]
  have h2 : sts = (readF x y.t y.l).1.2.2 := by rw [← hI]
  have h3 : x2 = (readF x y.t y.l).2 := by rw [← hI]
  refine J.ends (m := [blk xb (PacketParser.enc ⟨⟨idp2, some hm, some bm⟩⟩) 64, mapH hm x2.hops, mapB bm x2.bases, idA idp2 x2.id, slA 105 1 u32E (.slice sa sts.length sc) sts]) (res_cell2 rfl rfl g46 (Tlv.enc_sub _) rfl) Tk5 ⟨idp2, sa, sc, ?_, ?_⟩
  ·rw [h1, hv, h2]
  ·rw [h3, h2]
 ·intro ku3 hu3
  refine Run.seq fun k5 hk5 => Run.region ?_
  show Sq _ _ _ [0, 1] _ _ _ _
  refine Fa 0 rfl rfl rfl f69_0 <| Qq 1 rfl rfl (QR.load1 rfl rfl g5 (Raw.sub_type _)) ?_
  refine Sq.nil <| hk5 _ _ <| Run.block <| Run.seq fun k6 hk6 => Run.region ?_
  show Sq _ _ _ [0, 1] _ _ _ _
  refine Qp 0 rfl rfl (QP.eql rfl rfl rfl) <| J.caseD (fun c20 => ?_) (fun c20 => ?_)
  ·refine Sg 1 rfl rfl rfl <| Sq.nil <| hk6 _ _ <| Run.cond_t rfl <| Run.seq fun k7 hk7 => Run.region ?_
   show Sq _ _ _ [0, 1, 2, 3, 4] _ _ _ _
   refine Mv 0 rfl rfl rfl <| Qp 1 rfl rfl (QP.nilCheck rfl rfl) <| Fa 2 rfl rfl rfl f100_0 <| Qq 3 rfl rfl (QR.load1 rfl rfl g90 (PacketPiece.sub_reader _)) ?_
   refine Ef 4 rfl rfl (EF.call rfl ce31 rfl Tk1 (fun F' hle hr => u16_spec F' (r := (⟨y.l, 0⟩ : Rs)))) ?_
   rintro _ _ ⟨_, ⟨rfl, rfl⟩, rfl⟩
   refine J.app ?_
   refine Sq.nil <| hk7 _ _ <| Run.seq fun k8 hk8 => Run.regionM (M := [0, 0, 0, 4, 12, 28, 60, 0, 128, 384, 896, 2044, 4093, 8189, 16381, 32765, 65535, 131071, 262143, 524287]) (q := 489407) (r := 1056) mixedT Kr ?_
   refine Dp 0 rfl rfl (QP.move rfl rfl) <| Dp 1 rfl rfl (QP.move rfl rfl) <| Dp 2 rfl rfl (QP.move rfl rfl) <| Dp 3 rfl rfl (QP.nilCheck rfl rfl) <| Dp 4 rfl rfl (QP.fieldAddr rfl rfl f100_0) <| Dr 5 rfl rfl (QR.load1 rfl rfl g90 (PacketPiece.sub_reader _)) ?_
   refine Dp 7 rfl rfl (QP.move rfl rfl) <| Dp 8 rfl rfl (QP.nilCheck rfl rfl) <| Dp 9 rfl rfl (QP.fieldAddr rfl rfl f100_0) <| Dr 10 rfl rfl (QR.load1 rfl rfl g90 (PacketPiece.sub_reader _)) ?_
   refine De 6 <| Om [10] rfl rfl (EF.call rfl ce31 rfl Tk1 (fun F' hle hr => u16_spec F' (r := (rdTake (⟨y.l, 0⟩ : Rs) 2).2))) ?_
   rintro _ _ ⟨_, ⟨rfl, rfl⟩, rfl⟩
   refine ⟨?_, ?_⟩
   ·rw [List.forall_mem_cons]
    refine ⟨?_, fun _ h => (by cases h)⟩
    ·refine Look.app ?_
     exact Look.mk rfl rfl rfl (QR.load1 rfl rfl g90 (PacketPiece.sub_reader _))
   refine ?_
   refine J.app ?_
   refine De 11 <| Om [] rfl rfl (EF.call rfl ce31 rfl Tk1 (fun F' hle hr => u16_spec F' (r := (rdTake (rdTake (⟨y.l, 0⟩ : Rs) 2).2 2).2))) ?_
   rintro _ _ ⟨_, ⟨rfl, rfl⟩, rfl⟩
   refine ⟨fun _ h => (by cases h), ?_⟩
   refine J.app ?_
   refine Dp 12 rfl rfl (QP.nilCheck rfl rfl) <| Dp 13 rfl rfl (QP.fieldAddr rfl rfl f100_1) <| Dp 14 rfl rfl (QP.fieldAddr rfl rfl f46_1) <| De 15 <| Oa [] rfl (EF.store rfl rfl rfl z37 ((PacketPiece.set_tlv _ _).trans (PacketPiece.sub_tlv _) (Tlv.set_nonce _ _)) (cell_one rfl)) ?_
   rintro _ _ rfl
   refine ⟨fun _ h => (by cases h), ?_⟩
   refine Dp 16 rfl rfl (QP.nilCheck rfl rfl) <| Dp 17 rfl rfl (QP.fieldAddr rfl rfl f100_1) <| Dp 18 rfl rfl (QP.fieldAddr rfl rfl f46_2) <| De 19 <| Oa [] rfl (EF.store rfl rfl rfl z37 ((PacketPiece.set_tlv _ _).trans (PacketPiece.sub_tlv _) (Tlv.set_interval _ _)) (cell_one rfl)) ?_
   rintro _ _ rfl
   refine ⟨fun _ h => (by cases h), ?_⟩
   refine Dn <| hk8 _ _ <| Run.region ?_
   show Sq _ _ _ [0, 1] _ _ _ _
   refine Mv 0 rfl rfl rfl <| Ef 1 rfl rfl (EF.call rfl ce36 rfl Tk2 (fun F' hle hr => subs_spec F' (t := ({ tlv0 y.t with nonce := u16F (rdTake (⟨y.l, 0⟩ : Rs) 2).2, interval := u16F (rdTake (rdTake (⟨y.l, 0⟩ : Rs) 2).2 2).2 } : Tlv)) (bad := false) (r := (rdTake (rdTake (rdTake (⟨y.l, 0⟩ : Rs) 2).2 2).2 2).2) (ts := []) (at1 := none) (ct := 0) (by simp) argSl_nil (take_few _ (take_few _ (take_few _ hyl))))) ?_
   rintro _ _ ⟨_, ⟨rs, rfl, hrs, hrn, hrf⟩, rfl⟩
   refine J.app ?_
   refine Sq.nil <| J.addSl 105 1 u32E ?_
   exact J.envJ (J.keep Tk8 (hu3 (({ tlv0 y.t with nonce := u16F (rdTake (⟨y.l, 0⟩ : Rs) 2).2, interval := u16F (rdTake (rdTake (⟨y.l, 0⟩ : Rs) 2).2 2).2 } : Tlv)) (((subsF [] false (rdTake (rdTake (rdTake (⟨y.l, 0⟩ : Rs) 2).2 2).2 2).2).2.1, (subsF [] false (rdTake (rdTake (rdTake (⟨y.l, 0⟩ : Rs) 2).2 2).2 2).2).2.2)) (idp) (x) ([]) (Slc.zero) (⟨by unfold readF; simp only; rw [if_pos (show y.t = 2 from c20)]; rfl, rfl, rfl⟩))) ⟨rfl, rfl, trivial⟩
  ·refine Sg 1 rfl rfl rfl <| Sq.nil <| hk6 _ _ <| Run.cond_f rfl <| Run.seq fun k9 hk9 => Run.region ?_
   show Sq _ _ _ [0, 1] _ _ _ _
   refine Qp 0 rfl rfl (QP.eql rfl rfl rfl) <| J.caseD (fun c47 => ?_) (fun c47 => ?_)
   ·refine Sg 1 rfl rfl rfl <| Sq.nil <| hk9 _ _ <| Run.cond_t rfl <| Run.seq fun k10 hk10 => Run.region ?_
    show Sq _ _ _ [0, 1, 2, 3, 4, 5, 6, 7, 8, 9] _ _ _ _
    refine Mv 0 rfl rfl rfl <| Mv 1 rfl rfl rfl <| Qp 2 rfl rfl (QP.nilCheck rfl rfl) <| Fa 3 rfl rfl rfl f100_0 <| Qq 4 rfl rfl (QR.load1 rfl rfl g90 (PacketPiece.sub_reader _)) ?_
    refine Ef 5 rfl rfl (EF.call rfl ce31 rfl Tk1 (fun F' hle hr => u16_spec F' (r := (⟨y.l, 0⟩ : Rs)))) ?_
    rintro _ _ ⟨_, ⟨rfl, rfl⟩, rfl⟩
    refine J.app ?_
    refine Qp 6 rfl rfl (QP.nilCheck rfl rfl) <| Fa 7 rfl rfl rfl f100_1 <| Fa 8 rfl rfl rfl f46_1 <| Ac 9 rfl (EF.store rfl rfl rfl z37 ((PacketPiece.set_tlv _ _).trans (PacketPiece.sub_tlv _) (Tlv.set_nonce _ _)) (cell_one rfl)) ?_
    rintro _ _ rfl
    refine Sq.nil <| hk10 _ _ <| Run.region ?_
    show Sq _ _ _ [0, 1] _ _ _ _
    refine Mv 0 rfl rfl rfl <| Ef 1 rfl rfl (EF.call rfl ce36 rfl Tk2 (fun F' hle hr => subs_spec F' (t := ({ tlv0 y.t with nonce := u16F (⟨y.l, 0⟩ : Rs) } : Tlv)) (bad := false) (r := (rdTake (⟨y.l, 0⟩ : Rs) 2).2) (ts := []) (at1 := none) (ct := 0) (by simp) argSl_nil (take_few _ hyl))) ?_
    rintro _ _ ⟨_, ⟨rs, rfl, hrs, hrn, hrf⟩, rfl⟩
    refine J.app ?_
    refine Sq.nil <| J.addSl 105 1 u32E ?_
    exact J.envJ (J.keep Tk8 (hu3 (({ tlv0 y.t with nonce := u16F (⟨y.l, 0⟩ : Rs) } : Tlv)) (((subsF [] false (rdTake (⟨y.l, 0⟩ : Rs) 2).2).2.1, (subsF [] false (rdTake (⟨y.l, 0⟩ : Rs) 2).2).2.2)) (idp) (x) ([]) (Slc.zero) (⟨by unfold readF; simp only; rw [if_neg (show ¬ y.t = 2 from c20), if_pos (show y.t = 3 from c47)]; rfl, rfl, rfl⟩))) ⟨rfl, rfl, trivial⟩
   ·refine Sg 1 rfl rfl rfl <| Sq.nil <| hk9 _ _ <| Run.cond_f rfl <| Run.seq fun k11 hk11 => Run.region ?_
    show Sq _ _ _ [0, 1] _ _ _ _
    refine Qp 0 rfl rfl (QP.eql rfl rfl rfl) <| J.caseD (fun c60 => ?_) (fun c60 => ?_)
    ·refine Sg 1 rfl rfl rfl <| Sq.nil <| hk11 _ _ <| Run.cond_t rfl <| Run.seq fun k12 hk12 => Run.region ?_
     show Sq _ _ _ [0, 1, 2, 3, 4, 5, 6, 7, 8, 9, 10, 11] _ _ _ _
     refine Mv 0 rfl rfl rfl <| Mv 1 rfl rfl rfl <| Qp 2 rfl rfl (QP.nilCheck rfl rfl) <| Fa 3 rfl rfl rfl f100_0 <| Qq 4 rfl rfl (QR.load1 rfl rfl g90 (PacketPiece.sub_reader _)) ?_
     refine Ef 5 rfl rfl (EF.call rfl ce31 rfl Tk1 (fun F' hle hr => u16_spec F' (r := (⟨y.l, 0⟩ : Rs)))) ?_
     rintro _ _ ⟨_, ⟨rfl, rfl⟩, rfl⟩
     refine J.app ?_
     refine Qp 6 rfl rfl (QP.and16 rfl rfl rfl) <| Qp 7 rfl rfl (QP.neq rfl rfl rfl) <| Qp 8 rfl rfl (QP.nilCheck rfl rfl) <| Fa 9 rfl rfl rfl f100_1 <| Fa 10 rfl rfl rfl f46_7 <| Ac 11 rfl (EF.store rfl rfl rfl z4 ((PacketPiece.set_tlv _ _).trans (PacketPiece.sub_tlv _) (Tlv.set_unicast _ _)) (cell_one rfl)) ?_
     rintro _ _ rfl
     refine Sq.nil <| hk12 _ _ <| Run.seq fun k13 hk13 => Run.regionM (M := [0, 0, 0, 4, 12, 28, 60, 0, 128, 384, 896, 2044, 4093, 8189, 16381, 32765, 65535, 131071, 262143, 524287]) (q := 489407) (r := 1056) mixedT Kr ?_
     refine Dp 0 rfl rfl (QP.move rfl rfl) <| Dp 1 rfl rfl (QP.move rfl rfl) <| Dp 2 rfl rfl (QP.move rfl rfl) <| Dp 3 rfl rfl (QP.nilCheck rfl rfl) <| Dp 4 rfl rfl (QP.fieldAddr rfl rfl f100_0) <| Dr 5 rfl rfl (QR.load1 rfl rfl g90 (PacketPiece.sub_reader _)) ?_
     refine Dp 7 rfl rfl (QP.move rfl rfl) <| Dp 8 rfl rfl (QP.nilCheck rfl rfl) <| Dp 9 rfl rfl (QP.fieldAddr rfl rfl f100_0) <| Dr 10 rfl rfl (QR.load1 rfl rfl g90 (PacketPiece.sub_reader _)) ?_
     refine De 6 <| Om [10] rfl rfl (EF.call rfl ce31 rfl Tk1 (fun F' hle hr => u16_spec F' (r := (rdTake (⟨y.l, 0⟩ : Rs) 2).2))) ?_
     rintro _ _ ⟨_, ⟨rfl, rfl⟩, rfl⟩
     refine ⟨?_, ?_⟩
     ·rw [List.forall_mem_cons]
      refine ⟨?_, fun _ h => (by cases h)⟩
      ·refine Look.app ?_
       exact Look.mk rfl rfl rfl (QR.load1 rfl rfl g90 (PacketPiece.sub_reader _))
     refine ?_
     refine J.app ?_
     refine De 11 <| Om [] rfl rfl (EF.call rfl ce31 rfl Tk1 (fun F' hle hr => u16_spec F' (r := (rdTake (rdTake (⟨y.l, 0⟩ : Rs) 2).2 2).2))) ?_
     rintro _ _ ⟨_, ⟨rfl, rfl⟩, rfl⟩
     refine ⟨fun _ h => (by cases h), ?_⟩
     refine J.app ?_
     refine Dp 12 rfl rfl (QP.nilCheck rfl rfl) <| Dp 13 rfl rfl (QP.fieldAddr rfl rfl f100_1) <| Dp 14 rfl rfl (QP.fieldAddr rfl rfl f46_3) <| De 15 <| Oa [] rfl (EF.store rfl rfl rfl z37 ((PacketPiece.set_tlv _ _).trans (PacketPiece.sub_tlv _) (Tlv.set_seqno _ _)) (cell_one rfl)) ?_
     rintro _ _ rfl
     refine ⟨fun _ h => (by cases h), ?_⟩
     refine Dp 16 rfl rfl (QP.nilCheck rfl rfl) <| Dp 17 rfl rfl (QP.fieldAddr rfl rfl f100_1) <| Dp 18 rfl rfl (QP.fieldAddr rfl rfl f46_2) <| De 19 <| Oa [] rfl (EF.store rfl rfl rfl z37 ((PacketPiece.set_tlv _ _).trans (PacketPiece.sub_tlv _) (Tlv.set_interval _ _)) (cell_one rfl)) ?_
     rintro _ _ rfl
     refine ⟨fun _ h => (by cases h), ?_⟩
     refine Dn <| hk13 _ _ <| Run.region ?_
     show Sq _ _ _ [0, 1] _ _ _ _
     refine Mv 0 rfl rfl rfl <| Ef 1 rfl rfl (EF.call rfl ce37 rfl Tk2 (fun F' hle hr => stamps_spec F' (t := ({ tlv0 y.t with unicast := decide (and16 (u16F (⟨y.l, 0⟩ : Rs)) 32768 ≠ 0), seqno := u16F (rdTake (⟨y.l, 0⟩ : Rs) 2).2, interval := u16F (rdTake (rdTake (⟨y.l, 0⟩ : Rs) 2).2 2).2 } : Tlv)) (bad := false) (r := (rdTake (rdTake (rdTake (⟨y.l, 0⟩ : Rs) 2).2 2).2 2).2) 1 (by decide) (take_few _ (take_few _ (take_few _ hyl))))) ?_
     rintro _ _ ⟨_, ⟨sa, sc, rfl, rfl⟩, rfl⟩
     refine J.app ?_
     refine Sq.nil ?_
     exact J.envJ (J.keep Tk8 (hu3 (({ ({ tlv0 y.t with unicast := decide (and16 (u16F (⟨y.l, 0⟩ : Rs)) 32768 ≠ 0), seqno := u16F (rdTake (⟨y.l, 0⟩ : Rs) 2).2, interval := u16F (rdTake (rdTake (⟨y.l, 0⟩ : Rs) 2).2 2).2 } : Tlv) with stamps := ⟨sa, (stampL 1 (subsF [3] false (rdTake (rdTake (rdTake (⟨y.l, 0⟩ : Rs) 2).2 2).2 2).2).1).length, sc⟩ } : Tlv)) (((subsF [3] false (rdTake (rdTake (rdTake (⟨y.l, 0⟩ : Rs) 2).2 2).2 2).2).2.1, (subsF [3] false (rdTake (rdTake (rdTake (⟨y.l, 0⟩ : Rs) 2).2 2).2 2).2).2.2)) (idp) (x) (stampL 1 (subsF [3] false (rdTake (rdTake (rdTake (⟨y.l, 0⟩ : Rs) 2).2 2).2 2).2).1) (⟨sa, (stampL 1 (subsF [3] false (rdTake (rdTake (rdTake (⟨y.l, 0⟩ : Rs) 2).2 2).2 2).2).1).length, sc⟩) (⟨by unfold readF; simp only; rw [if_neg (show ¬ y.t = 2 from c20), if_neg (show ¬ y.t = 3 from c47), if_pos (show y.t = 4 from c60)]; rfl, rfl, rfl⟩))) ⟨rfl, rfl, trivial⟩
    ·refine Sg 1 rfl rfl rfl <| Sq.nil <| hk11 _ _ <| Run.cond_f rfl <| Run.seq fun k14 hk14 => Run.region ?_
     show Sq _ _ _ [0, 1] _ _ _ _
     refine Qp 0 rfl rfl (QP.eql rfl rfl rfl) <| J.caseD (fun c93 => ?_) (fun c93 => ?_)
     ·refine Sg 1 rfl rfl rfl <| Sq.nil <| hk14 _ _ <| Run.cond_t rfl <| Run.seq fun k15 hk15 => Run.region ?_
      show Sq _ _ _ [0, 1, 2, 3, 4, 5] _ _ _ _
      refine Mv 0 rfl rfl rfl <| Qp 1 rfl rfl (QP.nilCheck rfl rfl) <| Fa 2 rfl rfl rfl f100_0 <| Qq 3 rfl rfl (QR.load1 rfl rfl g90 (PacketPiece.sub_reader _)) ?_
      refine Ef 4 rfl rfl (EF.call rfl ce30 rfl Tk1 (fun F' hle hr => u8_spec F' (r := (⟨y.l, 0⟩ : Rs)))) ?_
      rintro _ _ ⟨_, ⟨rfl, rfl⟩, rfl⟩
      refine J.app ?_
      refine Sg 5 rfl rfl rfl <| Sq.nil <| hk15 _ _ <| Run.seq fun k16 hk16 => Run.region ?_
      show Sq _ _ _ [0, 1, 2, 3, 4] _ _ _ _
      refine Mv 0 rfl rfl rfl <| Qp 1 rfl rfl (QP.nilCheck rfl rfl) <| Fa 2 rfl rfl rfl f100_0 <| Qq 3 rfl rfl (QR.load1 rfl rfl g90 (PacketPiece.sub_reader _)) ?_
      refine Ef 4 rfl rfl (EF.call rfl ce30 rfl Tk1 (fun F' hle hr => u8_spec F' (r := (rdTake (⟨y.l, 0⟩ : Rs) 1).2))) ?_
      rintro _ _ ⟨_, ⟨rfl, rfl⟩, rfl⟩
      refine J.app ?_
      refine Sq.nil <| hk16 _ _ <| Run.seq fun k17 hk17 => Run.regionM (M := [0, 0, 0, 4, 12, 28, 60, 0, 128, 384, 896, 2044, 4093, 8189, 16381, 32765, 65535, 131071, 262143, 524287]) (q := 489407) (r := 1056) mixedT Kr ?_
      refine Dp 0 rfl rfl (QP.move rfl rfl) <| Dp 1 rfl rfl (QP.move rfl rfl) <| Dp 2 rfl rfl (QP.move rfl rfl) <| Dp 3 rfl rfl (QP.nilCheck rfl rfl) <| Dp 4 rfl rfl (QP.fieldAddr rfl rfl f100_0) <| Dr 5 rfl rfl (QR.load1 rfl rfl g90 (PacketPiece.sub_reader _)) ?_
      refine Dp 7 rfl rfl (QP.move rfl rfl) <| Dp 8 rfl rfl (QP.nilCheck rfl rfl) <| Dp 9 rfl rfl (QP.fieldAddr rfl rfl f100_0) <| Dr 10 rfl rfl (QR.load1 rfl rfl g90 (PacketPiece.sub_reader _)) ?_
      refine De 6 <| Om [10] rfl rfl (EF.call rfl ce31 rfl Tk1 (fun F' hle hr => u16_spec F' (r := (rdTake (rdTake (⟨y.l, 0⟩ : Rs) 1).2 1).2))) ?_
      rintro _ _ ⟨_, ⟨rfl, rfl⟩, rfl⟩
      refine ⟨?_, ?_⟩
      ·rw [List.forall_mem_cons]
       refine ⟨?_, fun _ h => (by cases h)⟩
       ·refine Look.app ?_
        exact Look.mk rfl rfl rfl (QR.load1 rfl rfl g90 (PacketPiece.sub_reader _))
      refine ?_
      refine J.app ?_
      refine De 11 <| Om [] rfl rfl (EF.call rfl ce31 rfl Tk1 (fun F' hle hr => u16_spec F' (r := (rdTake (rdTake (rdTake (⟨y.l, 0⟩ : Rs) 1).2 1).2 2).2))) ?_
      rintro _ _ ⟨_, ⟨rfl, rfl⟩, rfl⟩
      refine ⟨fun _ h => (by cases h), ?_⟩
      refine J.app ?_
      refine Dp 12 rfl rfl (QP.nilCheck rfl rfl) <| Dp 13 rfl rfl (QP.fieldAddr rfl rfl f100_1) <| Dp 14 rfl rfl (QP.fieldAddr rfl rfl f46_4) <| De 15 <| Oa [] rfl (EF.store rfl rfl rfl z37 ((PacketPiece.set_tlv _ _).trans (PacketPiece.sub_tlv _) (Tlv.set_rxcost _ _)) (cell_one rfl)) ?_
      rintro _ _ rfl
      refine ⟨fun _ h => (by cases h), ?_⟩
      refine Dp 16 rfl rfl (QP.nilCheck rfl rfl) <| Dp 17 rfl rfl (QP.fieldAddr rfl rfl f100_1) <| Dp 18 rfl rfl (QP.fieldAddr rfl rfl f46_2) <| De 19 <| Oa [] rfl (EF.store rfl rfl rfl z37 ((PacketPiece.set_tlv _ _).trans (PacketPiece.sub_tlv _) (Tlv.set_interval _ _)) (cell_one rfl)) ?_
      rintro _ _ rfl
      refine ⟨fun _ h => (by cases h), ?_⟩
      refine Dn <| hk17 _ _ <| Run.seq fun k18 hk18 => Run.region ?_
      show Sq _ _ _ [0, 1, 2, 3, 4, 5, 6, 7, 8, 9, 10, 11, 12, 13, 14] _ _ _ _
      refine Mv 0 rfl rfl rfl <| Mv 1 rfl rfl rfl <| Mv 2 rfl rfl rfl <| Mv 3 rfl rfl rfl <| Ef 4 rfl rfl (EF.call rfl ce38 rfl Tk2 (fun F' hle hr => address_spec F' (t := ({ tlv0 y.t with rxcost := u16F (rdTake (rdTake (⟨y.l, 0⟩ : Rs) 1).2 1).2, interval := u16F (rdTake (rdTake (rdTake (⟨y.l, 0⟩ : Rs) 1).2 1).2 2).2 } : Tlv)) (bad := false) (r := (rdTake (rdTake (rdTake (rdTake (⟨y.l, 0⟩ : Rs) 1).2 1).2 2).2 2).2) (u8F (⟨y.l, 0⟩ : Rs)))) ?_
      rintro _ _ ⟨_, ⟨rfl, rfl⟩, rfl⟩
      refine J.app ?_
      refine Mv 5 rfl rfl rfl <| Qp 6 rfl rfl (QP.eql rfl rfl rfl) <| Qp 7 rfl rfl (QP.nilCheck rfl rfl) <| Fa 8 rfl rfl rfl f100_1 <| Fa 9 rfl rfl rfl f46_10 <| Ac 10 rfl (EF.storeA rfl rfl rfl z23 ((PacketPiece.set_tlv _ _).trans (PacketPiece.sub_tlv _) (Tlv.set_addr _ _)) (Bs.cell _)) ?_
      rintro _ _ rfl
      refine Qp 11 rfl rfl (QP.nilCheck rfl rfl) <| Fa 12 rfl rfl rfl f100_1 <| Fa 13 rfl rfl rfl f46_8 <| Ac 14 rfl (EF.store rfl rfl rfl z4 ((PacketPiece.set_tlv _ _).trans (PacketPiece.sub_tlv _) (Tlv.set_all _ _)) (cell_one rfl)) ?_
      rintro _ _ rfl
      refine Sq.nil <| hk18 _ _ <| Run.region ?_
      show Sq _ _ _ [0, 1] _ _ _ _
      refine Mv 0 rfl rfl rfl <| Ef 1 rfl rfl (EF.call rfl ce37 rfl Tk2 (fun F' hle hr => stamps_spec F' (t := ({ tlv0 y.t with rxcost := u16F (rdTake (rdTake (⟨y.l, 0⟩ : Rs) 1).2 1).2, interval := u16F (rdTake (rdTake (rdTake (⟨y.l, 0⟩ : Rs) 1).2 1).2 2).2, addr := (addrF (u8F (⟨y.l, 0⟩ : Rs)) (rdTake (rdTake (rdTake (rdTake (⟨y.l, 0⟩ : Rs) 1).2 1).2 2).2 2).2).1, all := decide (u8F (⟨y.l, 0⟩ : Rs) = 0) } : Tlv)) (bad := (false || (addrF (u8F (⟨y.l, 0⟩ : Rs)) (rdTake (rdTake (rdTake (rdTake (⟨y.l, 0⟩ : Rs) 1).2 1).2 2).2 2).2).2.2)) (r := (addrF (u8F (⟨y.l, 0⟩ : Rs)) (rdTake (rdTake (rdTake (rdTake (⟨y.l, 0⟩ : Rs) 1).2 1).2 2).2 2).2).2.1) 2 (by decide) (addr_few (take_few _ (take_few _ (take_few _ (take_few _ hyl))))))) ?_
      rintro _ _ ⟨_, ⟨sa, sc, rfl, rfl⟩, rfl⟩
      refine J.app ?_
      refine Sq.nil ?_
      exact J.envJ (J.keep Tk8 (hu3 (({ ({ tlv0 y.t with rxcost := u16F (rdTake (rdTake (⟨y.l, 0⟩ : Rs) 1).2 1).2, interval := u16F (rdTake (rdTake (rdTake (⟨y.l, 0⟩ : Rs) 1).2 1).2 2).2, addr := (addrF (u8F (⟨y.l, 0⟩ : Rs)) (rdTake (rdTake (rdTake (rdTake (⟨y.l, 0⟩ : Rs) 1).2 1).2 2).2 2).2).1, all := decide (u8F (⟨y.l, 0⟩ : Rs) = 0) } : Tlv) with stamps := ⟨sa, (stampL 2 (subsF [3] (false || (addrF (u8F (⟨y.l, 0⟩ : Rs)) (rdTake (rdTake (rdTake (rdTake (⟨y.l, 0⟩ : Rs) 1).2 1).2 2).2 2).2).2.2) (addrF (u8F (⟨y.l, 0⟩ : Rs)) (rdTake (rdTake (rdTake (rdTake (⟨y.l, 0⟩ : Rs) 1).2 1).2 2).2 2).2).2.1).1).length, sc⟩ } : Tlv)) (((subsF [3] (false || (addrF (u8F (⟨y.l, 0⟩ : Rs)) (rdTake (rdTake (rdTake (rdTake (⟨y.l, 0⟩ : Rs) 1).2 1).2 2).2 2).2).2.2) (addrF (u8F (⟨y.l, 0⟩ : Rs)) (rdTake (rdTake (rdTake (rdTake (⟨y.l, 0⟩ : Rs) 1).2 1).2 2).2 2).2).2.1).2.1, (subsF [3] (false || (addrF (u8F (⟨y.l, 0⟩ : Rs)) (rdTake (rdTake (rdTake (rdTake (⟨y.l, 0⟩ : Rs) 1).2 1).2 2).2 2).2).2.2) (addrF (u8F (⟨y.l, 0⟩ : Rs)) (rdTake (rdTake (rdTake (rdTake (⟨y.l, 0⟩ : Rs) 1).2 1).2 2).2 2).2).2.1).2.2)) (idp) (x) (stampL 2 (subsF [3] (false || (addrF (u8F (⟨y.l, 0⟩ : Rs)) (rdTake (rdTake (rdTake (rdTake (⟨y.l, 0⟩ : Rs) 1).2 1).2 2).2 2).2).2.2) (addrF (u8F (⟨y.l, 0⟩ : Rs)) (rdTake (rdTake (rdTake (rdTake (⟨y.l, 0⟩ : Rs) 1).2 1).2 2).2 2).2).2.1).1) (⟨sa, (stampL 2 (subsF [3] (false || (addrF (u8F (⟨y.l, 0⟩ : Rs)) (rdTake (rdTake (rdTake (rdTake (⟨y.l, 0⟩ : Rs) 1).2 1).2 2).2 2).2).2.2) (addrF (u8F (⟨y.l, 0⟩ : Rs)) (rdTake (rdTake (rdTake (rdTake (⟨y.l, 0⟩ : Rs) 1).2 1).2 2).2 2).2).2.1).1).length, sc⟩) (⟨by unfold readF; simp only; rw [if_neg (show ¬ y.t = 2 from c20), if_neg (show ¬ y.t = 3 from c47), if_neg (show ¬ y.t = 4 from c60), if_pos (show y.t = 5 from c93)]; rfl, rfl, rfl⟩))) ⟨rfl, rfl, trivial⟩
     ·refine Sg 1 rfl rfl rfl <| Sq.nil <| hk14 _ _ <| Run.cond_f rfl <| Run.seq fun k19 hk19 => Run.region ?_
      show Sq _ _ _ [0, 1] _ _ _ _
      refine Qp 0 rfl rfl (QP.eql rfl rfl rfl) <| J.caseD (fun c138 => ?_) (fun c138 => ?_)
      ·refine Sg 1 rfl rfl rfl <| Sq.nil <| hk19 _ _ <| Run.cond_t rfl <| Run.region ?_
       show Sq _ _ _ [0, 1, 2] _ _ _ _
       refine Mv 0 rfl rfl rfl <| Mv 1 rfl rfl rfl <| Ef 2 rfl rfl (EF.call rfl ce39 rfl Tk6 (fun F' hle hr => update_spec F' (b := b15) (rb := rb) (t := (tlv0 y.t)) (bad := false) (r := (⟨y.l, 0⟩ : Rs)) x hyl)) ?_
       rintro _ _ ⟨_, ⟨idpU, rfl, rfl⟩, rfl⟩
       refine J.app ?_
       refine Sq.nil <| J.addSl 105 1 u32E ?_
       exact J.envJ (J.keep Tk8 (hu3 ((updF x (tlv0 y.t) (⟨y.l, 0⟩ : Rs) false).1.1) (((updF x (tlv0 y.t) (⟨y.l, 0⟩ : Rs) false).1.2.1, (updF x (tlv0 y.t) (⟨y.l, 0⟩ : Rs) false).1.2.2)) (idpU) ((updF x (tlv0 y.t) (⟨y.l, 0⟩ : Rs) false).2) ([]) (Slc.zero) (⟨by unfold readF; simp only; rw [if_neg (show ¬ y.t = 2 from c20), if_neg (show ¬ y.t = 3 from c47), if_neg (show ¬ y.t = 4 from c60), if_neg (show ¬ y.t = 5 from c93), if_pos (show y.t = 8 from c138)]; rw [Tlv.with_zero (upd_stamps x (tlv0 y.t) (⟨y.l, 0⟩ : Rs) false)], upd_stamps x (tlv0 y.t) (⟨y.l, 0⟩ : Rs) false, rfl⟩))) ⟨rfl, rfl, trivial⟩
      ·refine Sg 1 rfl rfl rfl <| Sq.nil <| hk19 _ _ <| Run.cond_f rfl <| Run.seq fun k20 hk20 => Run.seq fun k21 hk21 => Run.region ?_
       show Sq _ _ _ [0, 1] _ _ _ _
       refine Qp 0 rfl rfl (QP.eql rfl rfl rfl) <| J.caseD (fun c143 => ?_) (fun c143 => ?_)
       ·refine Sg 1 rfl rfl rfl <| Sq.nil <| hk21 _ _ <| Run.cond_t rfl <| Run.skip <| hk20 _ _ <| Run.cond_t rfl <| Run.region ?_
        show Sq _ _ _ [0, 1] _ _ _ _
        refine Mv 0 rfl rfl rfl <| Ef 1 rfl rfl (EF.call rfl ce40 rfl Tk2 (fun F' hle hr => request_spec F' (t := (tlv0 y.t)) (bad := false) (r := (⟨y.l, 0⟩ : Rs)) hyl)) ?_
        rintro _ _ ⟨_, ⟨rfl, rfl⟩, rfl⟩
        refine J.app ?_
        refine Sq.nil <| J.addSl 105 1 u32E ?_
        exact J.envJ (J.keep Tk8 (hu3 ((reqF (tlv0 y.t) (⟨y.l, 0⟩ : Rs) false).1) (((reqF (tlv0 y.t) (⟨y.l, 0⟩ : Rs) false).2.1, (reqF (tlv0 y.t) (⟨y.l, 0⟩ : Rs) false).2.2)) (idp) (x) ([]) (Slc.zero) (⟨by unfold readF; simp only; rw [if_neg (show ¬ y.t = 2 from c20), if_neg (show ¬ y.t = 3 from c47), if_neg (show ¬ y.t = 4 from c60), if_neg (show ¬ y.t = 5 from c93), if_neg (show ¬ y.t = 8 from c138), if_pos (Or.inl (show y.t = 9 from c143))]; rw [Tlv.with_zero (req_stamps (tlv0 y.t) (⟨y.l, 0⟩ : Rs) false)], req_stamps (tlv0 y.t) (⟨y.l, 0⟩ : Rs) false, rfl⟩))) ⟨rfl, rfl, trivial⟩
       ·refine Sg 1 rfl rfl rfl <| Sq.nil <| hk21 _ _ <| Run.cond_f rfl <| Run.region ?_
        show Sq _ _ _ [0, 1] _ _ _ _
        refine Qp 0 rfl rfl (QP.eql rfl rfl rfl) <| J.caseD (fun c144 => ?_) (fun c144 => ?_)
        ·refine Sg 1 rfl rfl rfl <| Sq.nil <| hk20 _ _ <| Run.cond_t rfl <| Run.region ?_
         show Sq _ _ _ [0, 1] _ _ _ _
         refine Mv 0 rfl rfl rfl <| Ef 1 rfl rfl (EF.call rfl ce40 rfl Tk2 (fun F' hle hr => request_spec F' (t := (tlv0 y.t)) (bad := false) (r := (⟨y.l, 0⟩ : Rs)) hyl)) ?_
         rintro _ _ ⟨_, ⟨rfl, rfl⟩, rfl⟩
         refine J.app ?_
         refine Sq.nil <| J.addSl 105 1 u32E ?_
         exact J.envJ (J.keep Tk8 (hu3 ((reqF (tlv0 y.t) (⟨y.l, 0⟩ : Rs) false).1) (((reqF (tlv0 y.t) (⟨y.l, 0⟩ : Rs) false).2.1, (reqF (tlv0 y.t) (⟨y.l, 0⟩ : Rs) false).2.2)) (idp) (x) ([]) (Slc.zero) (⟨by unfold readF; simp only; rw [if_neg (show ¬ y.t = 2 from c20), if_neg (show ¬ y.t = 3 from c47), if_neg (show ¬ y.t = 4 from c60), if_neg (show ¬ y.t = 5 from c93), if_neg (show ¬ y.t = 8 from c138), if_pos (Or.inr (show y.t = 10 from c144))]; rw [Tlv.with_zero (req_stamps (tlv0 y.t) (⟨y.l, 0⟩ : Rs) false)], req_stamps (tlv0 y.t) (⟨y.l, 0⟩ : Rs) false, rfl⟩))) ⟨rfl, rfl, trivial⟩
        ·refine Sg 1 rfl rfl rfl <| Sq.nil <| hk20 _ _ <| Run.cond_f rfl <| Run.seq fun k22 hk22 => Run.seq fun k23 hk23 => Run.region ?_
         show Sq _ _ _ [0, 1] _ _ _ _
         refine Qp 0 rfl rfl (QP.eql rfl rfl rfl) <| J.caseD (fun c148 => ?_) (fun c148 => ?_)
         ·refine Sg 1 rfl rfl rfl <| Sq.nil <| hk23 _ _ <| Run.cond_t rfl <| Run.skip <| hk22 _ _ <| Run.cond_t rfl <| Run.seq fun k24 hk24 => Run.region ?_
          show Sq _ _ _ [0, 1, 2] _ _ _ _
          refine Mv 0 rfl rfl rfl <| Mv 1 rfl rfl rfl <| Ef 2 rfl rfl (EF.call rfl ce41 rfl Tk6 (fun F' hle hr => tells_spec F' (b := b15) (rb := rb) (t := (tlv0 y.t)) (bad := false) (r := (⟨y.l, 0⟩ : Rs)) x)) ?_
          rintro _ _ ⟨_, ⟨idpT, rfl, rfl⟩, rfl⟩
          refine J.app ?_
          refine Sq.nil <| hk24 _ _ <| Run.seq fun k25 hk25 => Run.region ?_
          show Sq _ _ _ [0, 1, 2] _ _ _ _
          refine Qp 0 rfl rfl (QP.build (l := Tlv.enc Tlv.zero) rfl st46 rfl (by exact trivial) rfl) <| Ac 1 rfl (EF.storeA rfl rfl rfl z46 (SetL.all (Tlv.enc_len _) (Tlv.enc_len _)) (Tlv.enc_cell _)) ?_
          rintro _ _ rfl
          refine Sg 2 rfl rfl rfl <| Sq.nil <| hk25 _ _ <| Run.ret ?_
          have hR : readF x y.t y.l = ((Tlv.zero, false, []), (tellF x (tlv0 y.t) (⟨y.l, 0⟩ : Rs) false).2.2) := by unfold readF; simp only; rw [if_neg (show ¬ y.t = 2 from c20), if_neg (show ¬ y.t = 3 from c47), if_neg (show ¬ y.t = 4 from c60), if_neg (show ¬ y.t = 5 from c93), if_neg (show ¬ y.t = 8 from c138), if_neg (show ¬ (y.t = 9 ∨ y.t = 10) from fun h => h.elim c143 c144), if_pos (Or.inl (show y.t = 6 from c148))]
          rw [hR]
          refine J.addSl 105 1 u32E ?_
          exact J.ends (m := [blk xb (PacketParser.enc ⟨⟨idpT, some hm, some bm⟩⟩) 64, mapH hm (tellF x (tlv0 y.t) (⟨y.l, 0⟩ : Rs) false).2.2.hops, mapB bm (tellF x (tlv0 y.t) (⟨y.l, 0⟩ : Rs) false).2.2.bases, idA idpT (tellF x (tlv0 y.t) (⟨y.l, 0⟩ : Rs) false).2.2.id, slA 105 1 u32E (.slice none 0 0) []]) (res_cell2 rfl rfl g46 (Tlv.enc_sub _) rfl) Tk5 ⟨idpT, none, 0, rfl, rfl⟩
         ·refine Sg 1 rfl rfl rfl <| Sq.nil <| hk23 _ _ <| Run.cond_f rfl <| Run.region ?_
          show Sq _ _ _ [0, 1] _ _ _ _
          refine Qp 0 rfl rfl (QP.eql rfl rfl rfl) <| J.caseD (fun c149 => ?_) (fun c149 => ?_)
          ·refine Sg 1 rfl rfl rfl <| Sq.nil <| hk22 _ _ <| Run.cond_t rfl <| Run.seq fun k26 hk26 => Run.region ?_
           show Sq _ _ _ [0, 1, 2] _ _ _ _
           refine Mv 0 rfl rfl rfl <| Mv 1 rfl rfl rfl <| Ef 2 rfl rfl (EF.call rfl ce41 rfl Tk6 (fun F' hle hr => tells_spec F' (b := b15) (rb := rb) (t := (tlv0 y.t)) (bad := false) (r := (⟨y.l, 0⟩ : Rs)) x)) ?_
           rintro _ _ ⟨_, ⟨idpT, rfl, rfl⟩, rfl⟩
           refine J.app ?_
           refine Sq.nil <| hk26 _ _ <| Run.seq fun k27 hk27 => Run.region ?_
           show Sq _ _ _ [0, 1, 2] _ _ _ _
           refine Qp 0 rfl rfl (QP.build (l := Tlv.enc Tlv.zero) rfl st46 rfl (by exact trivial) rfl) <| Ac 1 rfl (EF.storeA rfl rfl rfl z46 (SetL.all (Tlv.enc_len _) (Tlv.enc_len _)) (Tlv.enc_cell _)) ?_
           rintro _ _ rfl
           refine Sg 2 rfl rfl rfl <| Sq.nil <| hk27 _ _ <| Run.ret ?_
           have hR : readF x y.t y.l = ((Tlv.zero, false, []), (tellF x (tlv0 y.t) (⟨y.l, 0⟩ : Rs) false).2.2) := by unfold readF; simp only; rw [if_neg (show ¬ y.t = 2 from c20), if_neg (show ¬ y.t = 3 from c47), if_neg (show ¬ y.t = 4 from c60), if_neg (show ¬ y.t = 5 from c93), if_neg (show ¬ y.t = 8 from c138), if_neg (show ¬ (y.t = 9 ∨ y.t = 10) from fun h => h.elim c143 c144), if_pos (Or.inr (show y.t = 7 from c149))]
           rw [hR]
           refine J.addSl 105 1 u32E ?_
           exact J.ends (m := [blk xb (PacketParser.enc ⟨⟨idpT, some hm, some bm⟩⟩) 64, mapH hm (tellF x (tlv0 y.t) (⟨y.l, 0⟩ : Rs) false).2.2.hops, mapB bm (tellF x (tlv0 y.t) (⟨y.l, 0⟩ : Rs) false).2.2.bases, idA idpT (tellF x (tlv0 y.t) (⟨y.l, 0⟩ : Rs) false).2.2.id, slA 105 1 u32E (.slice none 0 0) []]) (res_cell2 rfl rfl g46 (Tlv.enc_sub _) rfl) Tk5 ⟨idpT, none, 0, rfl, rfl⟩
          ·refine Sg 1 rfl rfl rfl <| Sq.nil <| hk22 _ _ <| Run.cond_f rfl <| Run.seq fun k28 hk28 => Run.region ?_
           show Sq _ _ _ [0, 1, 2] _ _ _ _
           refine Qp 0 rfl rfl (QP.build (l := Tlv.enc Tlv.zero) rfl st46 rfl (by exact trivial) rfl) <| Ac 1 rfl (EF.storeA rfl rfl rfl z46 (SetL.all (Tlv.enc_len _) (Tlv.enc_len _)) (Tlv.enc_cell _)) ?_
           rintro _ _ rfl
           refine Sg 2 rfl rfl rfl <| Sq.nil <| hk28 _ _ <| Run.ret ?_
           have hR : readF x y.t y.l = ((Tlv.zero, false, []), x) := by unfold readF; simp only; rw [if_neg (show ¬ y.t = 2 from c20), if_neg (show ¬ y.t = 3 from c47), if_neg (show ¬ y.t = 4 from c60), if_neg (show ¬ y.t = 5 from c93), if_neg (show ¬ y.t = 8 from c138), if_neg (show ¬ (y.t = 9 ∨ y.t = 10) from fun h => h.elim c143 c144), if_neg (show ¬ (y.t = 6 ∨ y.t = 7) from fun h => h.elim c148 c149)]
           rw [hR]
           refine J.addSl 105 1 u32E ?_
           exact J.ends (m := [blk xb (PacketParser.enc ⟨⟨idp, some hm, some bm⟩⟩) 64, mapH hm x.hops, mapB bm x.bases, idA idp x.id, slA 105 1 u32E (.slice none 0 0) []]) (res_cell2 rfl rfl g46 (Tlv.enc_sub _) rfl) Tk5 ⟨idp, none, 0, rfl, rfl⟩
end Slb
