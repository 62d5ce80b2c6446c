/- J11: a part of the proof that a law of this package holds for every input; no condition. -/
import Derived.Test.YtfokodhfjdhdaaaGreatM2
import Derived.Test.YtfokodhfjdhdaaaGreatJ10
namespace Slb
open Go Go.Proofs
set_option maxRecDepth 20000
theorem Tlv.with_zero {t : Tlv} (h : t.stamps = Slc.zero) : ({ t with stamps := Slc.zero } : Tlv) = t := by
 cases t
 simp only at h
 rw [h]
theorem ite_st {c : Prop} [Decidable c] {a b : Tlv × Rs × Bool} {s : Slc} (ha : a.1.stamps = s) (hb : b.1.stamps = s) : (if c then a else b).1.stamps = s := by split <;> assumption
theorem ite_st2 {c : Prop} [Decidable c] {a b : (Tlv × Rs × Bool) × PrS} {s : Slc} (ha : a.1.1.stamps = s) (hb : b.1.1.stamps = s) : (if c then a else b).1.1.stamps = s := by split <;> assumption
theorem upd_stamps (x : PrS) (t : Tlv) (r : Rs) (bad : Bool) : (updF x t r bad).1.1.stamps = t.stamps := by
 have h : ∀ (x : PrS) (pr : Pair × Rs × Bool) (p : Prefix) (t : Tlv), (updH x pr p t).1.stamps = t.stamps := by
   intro x pr p t
   unfold updH
   exact ite_st rfl (ite_st rfl rfl)
 have h2 : ∀ (x : PrS) (ae fl plen om : Int) (t : Tlv) (r : Rs) (bad : Bool), (updG x ae fl plen om t r bad).1.1.stamps = t.stamps := by
   intro x ae fl plen om t r bad
   unfold updG
   exact ite_st2 (ite_st2 rfl rfl) (ite_st2 rfl (h _ _ _ _))
 exact h2 _ _ _ _ _ _ _ _
theorem req_stamps (t : Tlv) (r : Rs) (bad : Bool) : (reqF t r bad).1.stamps = t.stamps := by
 unfold reqF
 have h : ∀ (a b : Int) (t : Tlv) (r : Rs) (c : Bool), (reqTail a b t r c).1.stamps = t.stamps := by
   intro a b t r c
   unfold reqTail
   split
   · split <;> rfl
   · split <;> rfl
 rw [h]
 unfold reqHead
 split <;> rfl
def tlv0 (rt : Int) : Tlv := { Tlv.zero with type := rt }
/-- What a piece says. -/
def readF (x : PrS) (rt : Int) (body : List UInt8) : (Tlv × Bool × List Int) × PrS :=
 let r0 : Rs := ⟨body, 0⟩
 let q1 := (rdTake r0 2).2
 let q2 := (rdTake q1 2).2
 let q3 := (rdTake q2 2).2
 let p2 := (rdTake (rdTake r0 1).2 1).2
 let p3 := (rdTake p2 2).2
 let p4 := (rdTake p3 2).2
 if rt = 2 then (({ tlv0 rt with nonce := u16F q1, interval := u16F q2 }, soundB (subsF [] false q3).2.2 (subsF [] false q3).2.1, []), x)
 else if rt = 3 then (({ tlv0 rt with nonce := u16F r0 }, soundB (subsF [] false q1).2.2 (subsF [] false q1).2.1, []), x)
 else if rt = 4 then (({ tlv0 rt with unicast := decide (and16 (u16F r0) 32768 ≠ 0), seqno := u16F q1, interval := u16F q2 }, soundB (subsF [3] false q3).2.2 (subsF [3] false q3).2.1, stampL 1 (subsF [3] false q3).1), x)
 else if rt = 5 then (({ tlv0 rt with rxcost := u16F p2, interval := u16F p3, addr := (addrF (u8F r0) p4).1, all := decide (u8F r0 = 0) },
     soundB (subsF [3] (false || (addrF (u8F r0) p4).2.2) (addrF (u8F r0) p4).2.1).2.2 (subsF [3] (false || (addrF (u8F r0) p4).2.2) (addrF (u8F r0) p4).2.1).2.1, stampL 2 (subsF [3] (false || (addrF (u8F r0) p4).2.2) (addrF (u8F r0) p4).2.1).1), x)
 else if rt = 8 then (((updF x (tlv0 rt) r0 false).1.1, soundB (updF x (tlv0 rt) r0 false).1.2.2 (updF x (tlv0 rt) r0 false).1.2.1, []), (updF x (tlv0 rt) r0 false).2)
 else if rt = 9 ∨ rt = 10 then (((reqF (tlv0 rt) r0 false).1, soundB (reqF (tlv0 rt) r0 false).2.2 (reqF (tlv0 rt) r0 false).2.1, []), x)
 else if rt = 6 ∨ rt = 7 then ((Tlv.zero, false, []), (tellF x (tlv0 rt) r0 false).2.2)
 else ((Tlv.zero, false, []), x)
theorem addr_few {ae : Int} {r : Rs} (h : r.l.length ≤ 1000000) : (addrF ae r).2.1.l.length ≤ 1000000 := by
 unfold addrF
 split
 · exact h
 · split
   · exact take_few _ h
   · split
     · exact take_few _ h
     · split
       · exact take_few _ h
       · exact h

set_option maxHeartbeats 6000000 in
theorem read_spec (F : Fr) {xb hm bm : Nat} {idp : Option Addr} (x : PrS) (y : RawX) (hyl : y.l.length ≤ 1000000) (hb : ArgSl F y.a 1 bytE y.l)  : Spec Tryz.prog 51 #[fp xb, .agg (rawE y).toArray] [blk xb (PacketParser.enc ⟨⟨idp, some hm, some bm⟩⟩) 132, mapH hm x.hops, mapB bm x.bases, idA idp x.id] F (fun v S => ∃ idp2 a2 c2, v = .tuple #[.agg (Tlv.enc { (readF x y.t y.l).1.1 with stamps := ⟨a2, (readF x y.t y.l).1.2.2.length, c2⟩ }).toArray, .bool (readF x y.t y.l).1.2.1] ∧ S = [blk xb (PacketParser.enc ⟨⟨idp2, some hm, some bm⟩⟩) 132, mapH hm (readF x y.t y.l).2.hops, mapB bm (readF x y.t y.l).2.bases, idA idp2 (readF x y.t y.l).2.id, slA 101 1 u32E (.slice a2 (readF x y.t y.l).1.2.2.length c2) (readF x y.t y.l).1.2.2]) := by
 refine Spec.intro (N := 160) (args := [fp xb, .agg (rawE y).toArray]) Tryz.func51 rfl rfl (by simp) ?_
 refine Zs fun _ hk1 => Ef 0 E2 (EF.boxA rfl rfl) ?_
 rintro _ _ ⟨b3, rfl, rfl⟩
 refine Ef 1 E2 (EF.allocA (l := Tlv.enc Tlv.zero) rfl zero49) ?_
 rintro _ _ ⟨b4, rfl, rfl⟩
 refine Sg 2 E3 <| Zl hk1 <| Run.seq fun _ hk2 => Run.regionD (M := [0, 1, 3, 0, 8, 24, 63, 127, 255]) (q := 123) (r := 18) Kr ?_
 refine Dp 0 E2 (Za E2 f137_1) <| Dr 1 E2 (Z1 E2 g75 (Raw.sub_body _)) ?_
 refine Dp 3 E2 (Za E2 f137_0) <| Dr 4 E2 (Z1 E2 g5 (Raw.sub_type _)) ?_
 refine Dp 5 E2 (QP.build (l := Tlv.enc (tlv0 y.t)) rfl st49 rfl (by exact ⟨rfl, trivial⟩) rfl) <| De 2 <| Om [4] rfl rfl (Zc E2 ce70 TN (fun F' hle hr => newR F' (xs := y.l) (a := y.a) (c := y.c) hyl (hb.mono hle))) ?_
 rintro _ _ ⟨_, ⟨rb, rfl, rfl⟩, rfl⟩
 refine ⟨?_, ?_⟩
 ·rw [FM]
  refine ⟨?_, NO⟩
  ·refine Look.app ?_
   exact Lk E3 (Z1 E2 g5 (Raw.sub_type _))
 refine ?_
 refine J.app <| Dp 6 E2 (QP.build (l := PacketPiece.enc ⟨some ⟨rb, 0, none⟩, (tlv0 y.t), false⟩) rfl st185 rfl (by exact ⟨rfl, ⟨congrArg some (Tlv.enc_len _).symm, trivial⟩⟩) rfl) <| De 7 <| Om [] rfl rfl (EF.boxA rfl rfl) ?_
 rintro _ _ ⟨b15, rfl, rfl⟩
 refine N0 <| De 8 <| Om [] rfl rfl ((Zg E2).eff) ?_
 rintro _ _ ⟨rfl, rfl⟩
 refine N0 <| Dn <| hk2 _ _ <| Run.cut6 (fun (t1 : Tlv) (q : Rs × Bool) (idp2 : Option Addr) (x2 : PrS) (sts : List Int) (sl : Slc) => (({ t1 with stamps := Slc.zero }, soundB q.2 q.1, sts), x2) = readF x y.t y.l ∧ t1.stamps = sl ∧ sl.n = sts.length) (fun t1 q idp2 x2 sts sl => .cons 4 (fp b4) (.cons 6 (fp b15) (.nil))) (fun t1 q idp2 x2 sts sl => [blk b15 (PacketPiece.enc ⟨some ⟨rb, 0, none⟩, t1, q.2⟩) 185, RdA rb q.1, blk xb (PacketParser.enc ⟨⟨idp2, some hm, some bm⟩⟩) 132, mapH hm x2.hops, mapB bm x2.bases, idA idp2 x2.id, slA 101 1 u32E (Slc.v sl) sts, blk b4 (Tlv.enc Tlv.zero) 49]) ?_ ?_
 ·rintro t1 q idp2 x2 sts sl ⟨hI, hsl, hsn⟩
  refine Run.seq fun _ hk4 => Run.regionM (M := [0, 1, 3, 7, 0, 16, 63, 127]) (q := 31) (r := 8) mixedT Kr ?_
  refine Dp 0 E2 (Zm E2) <| Dp 1 E2 (Zn E2) <| Dp 2 E2 (Za E2 f185_1) <| Dr 3 E2 (Z0 E2 g49 (PacketPiece.sub_tlv _)) ?_
  refine Dp 4 E2 (Zm E2) <| De 5 <| Om [3] rfl rfl (Zc E2 ce83 Tk2 (fun F' hle hr => sound_spec F' (t := t1) (bad := q.2) (r := q.1))) ?_
  rintro _ _ ⟨_, ⟨rfl, rfl⟩, rfl⟩
  refine ⟨?_, ?_⟩
  ·rw [FM]
   refine ⟨?_, NO⟩
   ·refine Look.app ?_
    exact Lk E3 (Z0 E2 g49 (PacketPiece.sub_tlv _))
  refine ?_
  refine J.app <| De 6 <| Oa [] rfl (EF.storeA rfl rfl rfl z49 (SetL.all (Tlv.enc_len _) (Tlv.enc_len _)) (Tlv.enc_cell _)) ?_
  rintro _ _ rfl
  refine N0 <| De 7 <| Om [] rfl rfl ((Zg E2).eff) ?_
  rintro _ _ ⟨rfl, rfl⟩
  refine N0 <| Dn <| hk4 _ _ <| Run.ret ?_
  obtain ⟨sa, sn, sc⟩ := sl
  simp only at hsn
  subst hsn
  have hv : t1 = ({ (readF x y.t y.l).1.1 with stamps := ⟨sa, sts.length, sc⟩ } : Tlv) := by rw [← hI]; cases t1; simp only at hsl; rw [hsl]
  have h1 : soundB q.2 q.1 = (readF x y.t y.l).1.2.1 := by rw [← hI]
  have h2 : sts = (readF x y.t y.l).1.2.2 := by rw [← hI]
  have h3 : x2 = (readF x y.t y.l).2 := by rw [← hI]
  refine J.ends (m := [blk xb (PacketParser.enc ⟨⟨idp2, some hm, some bm⟩⟩) 132, mapH hm x2.hops, mapB bm x2.bases, idA idp2 x2.id, slA 101 1 u32E (.slice sa sts.length sc) sts]) (res_cell2 rfl rfl g49 (Tlv.enc_sub _) rfl) Tk5 ⟨idp2, sa, sc, ?_, ?_⟩
  ·rw [h1, hv, h2]
  ·rw [h3, h2]
 ·intro ku3 hu3
  refine Zs fun _ hk5 => Fa 0 E3 f137_0 <| Qq 1 E2 (Z1 E2 g5 (Raw.sub_type _)) ?_
  refine Zl hk5 <| Run.block <| Zs fun _ hk6 => Qp 0 E2 (Ze E3) <| J.caseD (fun c20 => ?_) (fun c20 => ?_)
  ·refine Sg 1 E3 <| Zl hk6 <| Zt <| Zs fun _ hk7 => Mv 0 E3 <| Qp 1 E2 (Zn E2) <| Fa 2 E3 f185_0 <| Qq 3 E2 (Z1 E2 g175 (PacketPiece.sub_reader _)) ?_
   refine Ef 4 E2 (Zc E2 ce72 Tk1 (fun F' hle hr => u16_spec F' (r := (⟨y.l, 0⟩ : Rs)))) ?_
   rintro _ _ ⟨_, ⟨rfl, rfl⟩, rfl⟩
   refine J.app <| Zl hk7 <| Run.seq fun _ hk8 => Run.regionM (M := [0, 0, 0, 4, 12, 28, 60, 0, 128, 384, 896, 2044, 4093, 8189, 16381, 32765, 65535, 131071, 262143, 524287]) (q := 489407) (r := 1056) mixedT Kr ?_
   refine Dp 0 E2 (Zm E2) <| Dp 1 E2 (Zm E2) <| Dp 2 E2 (Zm E2) <| Dp 3 E2 (Zn E2) <| Dp 4 E2 (Za E2 f185_0) <| Dr 5 E2 (Z1 E2 g175 (PacketPiece.sub_reader _)) ?_
   refine Dp 7 E2 (Zm E2) <| Dp 8 E2 (Zn E2) <| Dp 9 E2 (Za E2 f185_0) <| Dr 10 E2 (Z1 E2 g175 (PacketPiece.sub_reader _)) ?_
   refine De 6 <| Om [10] rfl rfl (Zc E2 ce72 Tk1 (fun F' hle hr => u16_spec F' (r := (rdTake (⟨y.l, 0⟩ : Rs) 2).2))) ?_
   rintro _ _ ⟨_, ⟨rfl, rfl⟩, rfl⟩
   refine ⟨?_, ?_⟩
   ·rw [FM]
    refine ⟨?_, NO⟩
    ·refine Look.app ?_
     exact Lk E3 (Z1 E2 g175 (PacketPiece.sub_reader _))
   refine ?_
   refine J.app <| De 11 <| Om [] rfl rfl (Zc E2 ce72 Tk1 (fun F' hle hr => u16_spec F' (r := (rdTake (rdTake (⟨y.l, 0⟩ : Rs) 2).2 2).2))) ?_
   rintro _ _ ⟨_, ⟨rfl, rfl⟩, rfl⟩
   refine N0 <| J.app <| Dp 12 E2 (Zn E2) <| Dp 13 E2 (Za E2 f185_1) <| Dp 14 E2 (Za E2 f49_1) <| De 15 <| Oa [] rfl (EF.store rfl rfl rfl z40 ((PacketPiece.set_tlv _ _).trans (PacketPiece.sub_tlv _) (Tlv.set_nonce _ _)) (cell_one rfl)) ?_
   rintro _ _ rfl
   refine N0 <| Dp 16 E2 (Zn E2) <| Dp 17 E2 (Za E2 f185_1) <| Dp 18 E2 (Za E2 f49_2) <| De 19 <| Oa [] rfl (EF.store rfl rfl rfl z40 ((PacketPiece.set_tlv _ _).trans (PacketPiece.sub_tlv _) (Tlv.set_interval _ _)) (cell_one rfl)) ?_
   rintro _ _ rfl
   refine N0 <| Dn <| hk8 _ _ <| Run.region <| Mv 0 E3 <| Ef 1 E2 (Zc E2 ce77 Tk2 (fun F' hle hr => subs_spec F' (t := ({ tlv0 y.t with nonce := u16F (rdTake (⟨y.l, 0⟩ : Rs) 2).2, interval := u16F (rdTake (rdTake (⟨y.l, 0⟩ : Rs) 2).2 2).2 } : Tlv)) (bad := false) (r := (rdTake (rdTake (rdTake (⟨y.l, 0⟩ : Rs) 2).2 2).2 2).2) (ts := []) (at1 := none) (ct := 0) (by simp) argSl_nil (take_few _ (take_few _ (take_few _ hyl))))) ?_
   rintro _ _ ⟨_, ⟨rs, rfl, hrs, hrn, hrf⟩, rfl⟩
   refine J.app <| Sq.nil <| J.addSl 101 1 u32E ?_
   exact J.envJ (J.keep Tk8 (hu3 (({ tlv0 y.t with nonce := u16F (rdTake (⟨y.l, 0⟩ : Rs) 2).2, interval := u16F (rdTake (rdTake (⟨y.l, 0⟩ : Rs) 2).2 2).2 } : Tlv)) (((subsF [] false (rdTake (rdTake (rdTake (⟨y.l, 0⟩ : Rs) 2).2 2).2 2).2).2.1, (subsF [] false (rdTake (rdTake (rdTake (⟨y.l, 0⟩ : Rs) 2).2 2).2 2).2).2.2)) (idp) (x) ([]) (Slc.zero) (⟨by unfold readF; simp only; rw [if_pos (show y.t = 2 from c20)]; rfl, rfl, rfl⟩))) ⟨rfl, rfl, trivial⟩
  ·refine Sg 1 E3 <| Zl hk6 <| Zf <| Zs fun _ hk9 => Qp 0 E2 (Ze E3) <| J.caseD (fun c47 => ?_) (fun c47 => ?_)
   ·refine Sg 1 E3 <| Zl hk9 <| Zt <| Zs fun _ hk10 => Mv 0 E3 <| Mv 1 E3 <| Qp 2 E2 (Zn E2) <| Fa 3 E3 f185_0 <| Qq 4 E2 (Z1 E2 g175 (PacketPiece.sub_reader _)) ?_
    refine Ef 5 E2 (Zc E2 ce72 Tk1 (fun F' hle hr => u16_spec F' (r := (⟨y.l, 0⟩ : Rs)))) ?_
    rintro _ _ ⟨_, ⟨rfl, rfl⟩, rfl⟩
    refine J.app <| Qp 6 E2 (Zn E2) <| Fa 7 E3 f185_1 <| Fa 8 E3 f49_1 <| Ac 9 rfl (EF.store rfl rfl rfl z40 ((PacketPiece.set_tlv _ _).trans (PacketPiece.sub_tlv _) (Tlv.set_nonce _ _)) (cell_one rfl)) ?_
    rintro _ _ rfl
    refine Zl hk10 <| Run.region <| Mv 0 E3 <| Ef 1 E2 (Zc E2 ce77 Tk2 (fun F' hle hr => subs_spec F' (t := ({ tlv0 y.t with nonce := u16F (⟨y.l, 0⟩ : Rs) } : Tlv)) (bad := false) (r := (rdTake (⟨y.l, 0⟩ : Rs) 2).2) (ts := []) (at1 := none) (ct := 0) (by simp) argSl_nil (take_few _ hyl))) ?_
    rintro _ _ ⟨_, ⟨rs, rfl, hrs, hrn, hrf⟩, rfl⟩
    refine J.app <| Sq.nil <| J.addSl 101 1 u32E ?_
    exact J.envJ (J.keep Tk8 (hu3 (({ tlv0 y.t with nonce := u16F (⟨y.l, 0⟩ : Rs) } : Tlv)) (((subsF [] false (rdTake (⟨y.l, 0⟩ : Rs) 2).2).2.1, (subsF [] false (rdTake (⟨y.l, 0⟩ : Rs) 2).2).2.2)) (idp) (x) ([]) (Slc.zero) (⟨by unfold readF; simp only; rw [if_neg (show ¬ y.t = 2 from c20), if_pos (show y.t = 3 from c47)]; rfl, rfl, rfl⟩))) ⟨rfl, rfl, trivial⟩
   ·refine Sg 1 E3 <| Zl hk9 <| Zf <| Zs fun _ hk11 => Qp 0 E2 (Ze E3) <| J.caseD (fun c60 => ?_) (fun c60 => ?_)
    ·refine Sg 1 E3 <| Zl hk11 <| Zt <| Zs fun _ hk12 => Mv 0 E3 <| Mv 1 E3 <| Qp 2 E2 (Zn E2) <| Fa 3 E3 f185_0 <| Qq 4 E2 (Z1 E2 g175 (PacketPiece.sub_reader _)) ?_
     refine Ef 5 E2 (Zc E2 ce72 Tk1 (fun F' hle hr => u16_spec F' (r := (⟨y.l, 0⟩ : Rs)))) ?_
     rintro _ _ ⟨_, ⟨rfl, rfl⟩, rfl⟩
     refine J.app <| Qp 6 E2 (QP.and16 rfl rfl rfl) <| Qp 7 E2 (Zq E3) <| Qp 8 E2 (Zn E2) <| Fa 9 E3 f185_1 <| Fa 10 E3 f49_7 <| Ac 11 rfl (EF.store rfl rfl rfl z4 ((PacketPiece.set_tlv _ _).trans (PacketPiece.sub_tlv _) (Tlv.set_unicast _ _)) (cell_one rfl)) ?_
     rintro _ _ rfl
     refine Zl hk12 <| Run.seq fun _ hk13 => Run.regionM (M := [0, 0, 0, 4, 12, 28, 60, 0, 128, 384, 896, 2044, 4093, 8189, 16381, 32765, 65535, 131071, 262143, 524287]) (q := 489407) (r := 1056) mixedT Kr ?_
     refine Dp 0 E2 (Zm E2) <| Dp 1 E2 (Zm E2) <| Dp 2 E2 (Zm E2) <| Dp 3 E2 (Zn E2) <| Dp 4 E2 (Za E2 f185_0) <| Dr 5 E2 (Z1 E2 g175 (PacketPiece.sub_reader _)) ?_
     refine Dp 7 E2 (Zm E2) <| Dp 8 E2 (Zn E2) <| Dp 9 E2 (Za E2 f185_0) <| Dr 10 E2 (Z1 E2 g175 (PacketPiece.sub_reader _)) ?_
     refine De 6 <| Om [10] rfl rfl (Zc E2 ce72 Tk1 (fun F' hle hr => u16_spec F' (r := (rdTake (⟨y.l, 0⟩ : Rs) 2).2))) ?_
     rintro _ _ ⟨_, ⟨rfl, rfl⟩, rfl⟩
     refine ⟨?_, ?_⟩
     ·rw [FM]
      refine ⟨?_, NO⟩
      ·refine Look.app ?_
       exact Lk E3 (Z1 E2 g175 (PacketPiece.sub_reader _))
     refine ?_
     refine J.app <| De 11 <| Om [] rfl rfl (Zc E2 ce72 Tk1 (fun F' hle hr => u16_spec F' (r := (rdTake (rdTake (⟨y.l, 0⟩ : Rs) 2).2 2).2))) ?_
     rintro _ _ ⟨_, ⟨rfl, rfl⟩, rfl⟩
     refine N0 <| J.app <| Dp 12 E2 (Zn E2) <| Dp 13 E2 (Za E2 f185_1) <| Dp 14 E2 (Za E2 f49_3) <| De 15 <| Oa [] rfl (EF.store rfl rfl rfl z40 ((PacketPiece.set_tlv _ _).trans (PacketPiece.sub_tlv _) (Tlv.set_seqno _ _)) (cell_one rfl)) ?_
     rintro _ _ rfl
     refine N0 <| Dp 16 E2 (Zn E2) <| Dp 17 E2 (Za E2 f185_1) <| Dp 18 E2 (Za E2 f49_2) <| De 19 <| Oa [] rfl (EF.store rfl rfl rfl z40 ((PacketPiece.set_tlv _ _).trans (PacketPiece.sub_tlv _) (Tlv.set_interval _ _)) (cell_one rfl)) ?_
     rintro _ _ rfl
     refine N0 <| Dn <| hk13 _ _ <| Run.region <| Mv 0 E3 <| Ef 1 E2 (Zc E2 ce78 Tk2 (fun F' hle hr => stamps_spec F' (t := ({ tlv0 y.t with unicast := decide (and16 (u16F (⟨y.l, 0⟩ : Rs)) 32768 ≠ 0), seqno := u16F (rdTake (⟨y.l, 0⟩ : Rs) 2).2, interval := u16F (rdTake (rdTake (⟨y.l, 0⟩ : Rs) 2).2 2).2 } : Tlv)) (bad := false) (r := (rdTake (rdTake (rdTake (⟨y.l, 0⟩ : Rs) 2).2 2).2 2).2) 1 (by decide) (take_few _ (take_few _ (take_few _ hyl))))) ?_
     rintro _ _ ⟨_, ⟨sa, sc, rfl, rfl⟩, rfl⟩
     exact J.app <| Sq.nil <| J.envJ (J.keep Tk8 (hu3 (({ ({ tlv0 y.t with unicast := decide (and16 (u16F (⟨y.l, 0⟩ : Rs)) 32768 ≠ 0), seqno := u16F (rdTake (⟨y.l, 0⟩ : Rs) 2).2, interval := u16F (rdTake (rdTake (⟨y.l, 0⟩ : Rs) 2).2 2).2 } : Tlv) with stamps := ⟨sa, (stampL 1 (subsF [3] false (rdTake (rdTake (rdTake (⟨y.l, 0⟩ : Rs) 2).2 2).2 2).2).1).length, sc⟩ } : Tlv)) (((subsF [3] false (rdTake (rdTake (rdTake (⟨y.l, 0⟩ : Rs) 2).2 2).2 2).2).2.1, (subsF [3] false (rdTake (rdTake (rdTake (⟨y.l, 0⟩ : Rs) 2).2 2).2 2).2).2.2)) (idp) (x) (stampL 1 (subsF [3] false (rdTake (rdTake (rdTake (⟨y.l, 0⟩ : Rs) 2).2 2).2 2).2).1) (⟨sa, (stampL 1 (subsF [3] false (rdTake (rdTake (rdTake (⟨y.l, 0⟩ : Rs) 2).2 2).2 2).2).1).length, sc⟩) (⟨by unfold readF; simp only; rw [if_neg (show ¬ y.t = 2 from c20), if_neg (show ¬ y.t = 3 from c47), if_pos (show y.t = 4 from c60)]; rfl, rfl, rfl⟩))) ⟨rfl, rfl, trivial⟩
    ·refine Sg 1 E3 <| Zl hk11 <| Zf <| Zs fun _ hk14 => Qp 0 E2 (Ze E3) <| J.caseD (fun c93 => ?_) (fun c93 => ?_)
     ·refine Sg 1 E3 <| Zl hk14 <| Zt <| Zs fun _ hk15 => Mv 0 E3 <| Qp 1 E2 (Zn E2) <| Fa 2 E3 f185_0 <| Qq 3 E2 (Z1 E2 g175 (PacketPiece.sub_reader _)) ?_
      refine Ef 4 E2 (Zc E2 ce71 Tk1 (fun F' hle hr => u8_spec F' (r := (⟨y.l, 0⟩ : Rs)))) ?_
      rintro _ _ ⟨_, ⟨rfl, rfl⟩, rfl⟩
      refine J.app <| Sg 5 E3 <| Zl hk15 <| Zs fun _ hk16 => Mv 0 E3 <| Qp 1 E2 (Zn E2) <| Fa 2 E3 f185_0 <| Qq 3 E2 (Z1 E2 g175 (PacketPiece.sub_reader _)) ?_
      refine Ef 4 E2 (Zc E2 ce71 Tk1 (fun F' hle hr => u8_spec F' (r := (rdTake (⟨y.l, 0⟩ : Rs) 1).2))) ?_
      rintro _ _ ⟨_, ⟨rfl, rfl⟩, rfl⟩
      refine J.app <| Zl hk16 <| Run.seq fun _ hk17 => Run.regionM (M := [0, 0, 0, 4, 12, 28, 60, 0, 128, 384, 896, 2044, 4093, 8189, 16381, 32765, 65535, 131071, 262143, 524287]) (q := 489407) (r := 1056) mixedT Kr ?_
      refine Dp 0 E2 (Zm E2) <| Dp 1 E2 (Zm E2) <| Dp 2 E2 (Zm E2) <| Dp 3 E2 (Zn E2) <| Dp 4 E2 (Za E2 f185_0) <| Dr 5 E2 (Z1 E2 g175 (PacketPiece.sub_reader _)) ?_
      refine Dp 7 E2 (Zm E2) <| Dp 8 E2 (Zn E2) <| Dp 9 E2 (Za E2 f185_0) <| Dr 10 E2 (Z1 E2 g175 (PacketPiece.sub_reader _)) ?_
      refine De 6 <| Om [10] rfl rfl (Zc E2 ce72 Tk1 (fun F' hle hr => u16_spec F' (r := (rdTake (rdTake (⟨y.l, 0⟩ : Rs) 1).2 1).2))) ?_
      rintro _ _ ⟨_, ⟨rfl, rfl⟩, rfl⟩
      refine ⟨?_, ?_⟩
      ·rw [FM]
       refine ⟨?_, NO⟩
       ·refine Look.app ?_
        exact Lk E3 (Z1 E2 g175 (PacketPiece.sub_reader _))
      refine ?_
      refine J.app <| De 11 <| Om [] rfl rfl (Zc E2 ce72 Tk1 (fun F' hle hr => u16_spec F' (r := (rdTake (rdTake (rdTake (⟨y.l, 0⟩ : Rs) 1).2 1).2 2).2))) ?_
      rintro _ _ ⟨_, ⟨rfl, rfl⟩, rfl⟩
      refine N0 <| J.app <| Dp 12 E2 (Zn E2) <| Dp 13 E2 (Za E2 f185_1) <| Dp 14 E2 (Za E2 f49_4) <| De 15 <| Oa [] rfl (EF.store rfl rfl rfl z40 ((PacketPiece.set_tlv _ _).trans (PacketPiece.sub_tlv _) (Tlv.set_rxcost _ _)) (cell_one rfl)) ?_
      rintro _ _ rfl
      refine N0 <| Dp 16 E2 (Zn E2) <| Dp 17 E2 (Za E2 f185_1) <| Dp 18 E2 (Za E2 f49_2) <| De 19 <| Oa [] rfl (EF.store rfl rfl rfl z40 ((PacketPiece.set_tlv _ _).trans (PacketPiece.sub_tlv _) (Tlv.set_interval _ _)) (cell_one rfl)) ?_
      rintro _ _ rfl
      refine N0 <| Dn <| hk17 _ _ <| Zs fun _ hk18 => Mv 0 E3 <| Mv 1 E3 <| Mv 2 E3 <| Mv 3 E3 <| Ef 4 E2 (Zc E2 ce79 Tk2 (fun F' hle hr => address_spec F' (t := ({ tlv0 y.t with rxcost := u16F (rdTake (rdTake (⟨y.l, 0⟩ : Rs) 1).2 1).2, interval := u16F (rdTake (rdTake (rdTake (⟨y.l, 0⟩ : Rs) 1).2 1).2 2).2 } : Tlv)) (bad := false) (r := (rdTake (rdTake (rdTake (rdTake (⟨y.l, 0⟩ : Rs) 1).2 1).2 2).2 2).2) (u8F (⟨y.l, 0⟩ : Rs)))) ?_
      rintro _ _ ⟨_, ⟨rfl, rfl⟩, rfl⟩
      refine J.app <| Mv 5 E3 <| Qp 6 E2 (Ze E3) <| Qp 7 E2 (Zn E2) <| Fa 8 E3 f185_1 <| Fa 9 E3 f49_10 <| Ac 10 rfl (EF.storeA rfl rfl rfl z32 ((PacketPiece.set_tlv _ _).trans (PacketPiece.sub_tlv _) (Tlv.set_addr _ _)) (Bs.cell _)) ?_
      rintro _ _ rfl
      refine Qp 11 E2 (Zn E2) <| Fa 12 E3 f185_1 <| Fa 13 E3 f49_8 <| Ac 14 rfl (EF.store rfl rfl rfl z4 ((PacketPiece.set_tlv _ _).trans (PacketPiece.sub_tlv _) (Tlv.set_all _ _)) (cell_one rfl)) ?_
      rintro _ _ rfl
      refine Zl hk18 <| Run.region <| Mv 0 E3 <| Ef 1 E2 (Zc E2 ce78 Tk2 (fun F' hle hr => stamps_spec F' (t := ({ tlv0 y.t with rxcost := u16F (rdTake (rdTake (⟨y.l, 0⟩ : Rs) 1).2 1).2, interval := u16F (rdTake (rdTake (rdTake (⟨y.l, 0⟩ : Rs) 1).2 1).2 2).2, addr := (addrF (u8F (⟨y.l, 0⟩ : Rs)) (rdTake (rdTake (rdTake (rdTake (⟨y.l, 0⟩ : Rs) 1).2 1).2 2).2 2).2).1, all := decide (u8F (⟨y.l, 0⟩ : Rs) = 0) } : Tlv)) (bad := (false || (addrF (u8F (⟨y.l, 0⟩ : Rs)) (rdTake (rdTake (rdTake (rdTake (⟨y.l, 0⟩ : Rs) 1).2 1).2 2).2 2).2).2.2)) (r := (addrF (u8F (⟨y.l, 0⟩ : Rs)) (rdTake (rdTake (rdTake (rdTake (⟨y.l, 0⟩ : Rs) 1).2 1).2 2).2 2).2).2.1) 2 (by decide) (addr_few (take_few _ (take_few _ (take_few _ (take_few _ hyl))))))) ?_
      rintro _ _ ⟨_, ⟨sa, sc, rfl, rfl⟩, rfl⟩
      exact J.app <| Sq.nil <| J.envJ (J.keep Tk8 (hu3 (({ ({ tlv0 y.t with rxcost := u16F (rdTake (rdTake (⟨y.l, 0⟩ : Rs) 1).2 1).2, interval := u16F (rdTake (rdTake (rdTake (⟨y.l, 0⟩ : Rs) 1).2 1).2 2).2, addr := (addrF (u8F (⟨y.l, 0⟩ : Rs)) (rdTake (rdTake (rdTake (rdTake (⟨y.l, 0⟩ : Rs) 1).2 1).2 2).2 2).2).1, all := decide (u8F (⟨y.l, 0⟩ : Rs) = 0) } : Tlv) with stamps := ⟨sa, (stampL 2 (subsF [3] (false || (addrF (u8F (⟨y.l, 0⟩ : Rs)) (rdTake (rdTake (rdTake (rdTake (⟨y.l, 0⟩ : Rs) 1).2 1).2 2).2 2).2).2.2) (addrF (u8F (⟨y.l, 0⟩ : Rs)) (rdTake (rdTake (rdTake (rdTake (⟨y.l, 0⟩ : Rs) 1).2 1).2 2).2 2).2).2.1).1).length, sc⟩ } : Tlv)) (((subsF [3] (false || (addrF (u8F (⟨y.l, 0⟩ : Rs)) (rdTake (rdTake (rdTake (rdTake (⟨y.l, 0⟩ : Rs) 1).2 1).2 2).2 2).2).2.2) (addrF (u8F (⟨y.l, 0⟩ : Rs)) (rdTake (rdTake (rdTake (rdTake (⟨y.l, 0⟩ : Rs) 1).2 1).2 2).2 2).2).2.1).2.1, (subsF [3] (false || (addrF (u8F (⟨y.l, 0⟩ : Rs)) (rdTake (rdTake (rdTake (rdTake (⟨y.l, 0⟩ : Rs) 1).2 1).2 2).2 2).2).2.2) (addrF (u8F (⟨y.l, 0⟩ : Rs)) (rdTake (rdTake (rdTake (rdTake (⟨y.l, 0⟩ : Rs) 1).2 1).2 2).2 2).2).2.1).2.2)) (idp) (x) (stampL 2 (subsF [3] (false || (addrF (u8F (⟨y.l, 0⟩ : Rs)) (rdTake (rdTake (rdTake (rdTake (⟨y.l, 0⟩ : Rs) 1).2 1).2 2).2 2).2).2.2) (addrF (u8F (⟨y.l, 0⟩ : Rs)) (rdTake (rdTake (rdTake (rdTake (⟨y.l, 0⟩ : Rs) 1).2 1).2 2).2 2).2).2.1).1) (⟨sa, (stampL 2 (subsF [3] (false || (addrF (u8F (⟨y.l, 0⟩ : Rs)) (rdTake (rdTake (rdTake (rdTake (⟨y.l, 0⟩ : Rs) 1).2 1).2 2).2 2).2).2.2) (addrF (u8F (⟨y.l, 0⟩ : Rs)) (rdTake (rdTake (rdTake (rdTake (⟨y.l, 0⟩ : Rs) 1).2 1).2 2).2 2).2).2.1).1).length, sc⟩) (⟨by unfold readF; simp only; rw [if_neg (show ¬ y.t = 2 from c20), if_neg (show ¬ y.t = 3 from c47), if_neg (show ¬ y.t = 4 from c60), if_pos (show y.t = 5 from c93)]; rfl, rfl, rfl⟩))) ⟨rfl, rfl, trivial⟩
     ·refine Sg 1 E3 <| Zl hk14 <| Zf <| Zs fun _ hk19 => Qp 0 E2 (Ze E3) <| J.caseD (fun c138 => ?_) (fun c138 => ?_)
      ·refine Sg 1 E3 <| Zl hk19 <| Zt <| Run.region <| Mv 0 E3 <| Mv 1 E3 <| Ef 2 E2 (Zc E2 ce80 Tk6 (fun F' hle hr => update_spec F' (b := b15) (rb := rb) (t := (tlv0 y.t)) (bad := false) (r := (⟨y.l, 0⟩ : Rs)) x hyl)) ?_
       rintro _ _ ⟨_, ⟨idpU, rfl, rfl⟩, rfl⟩
       refine J.app <| Sq.nil <| J.addSl 101 1 u32E ?_
       exact J.envJ (J.keep Tk8 (hu3 ((updF x (tlv0 y.t) (⟨y.l, 0⟩ : Rs) false).1.1) (((updF x (tlv0 y.t) (⟨y.l, 0⟩ : Rs) false).1.2.1, (updF x (tlv0 y.t) (⟨y.l, 0⟩ : Rs) false).1.2.2)) (idpU) ((updF x (tlv0 y.t) (⟨y.l, 0⟩ : Rs) false).2) ([]) (Slc.zero) (⟨by unfold readF; simp only; rw [if_neg (show ¬ y.t = 2 from c20), if_neg (show ¬ y.t = 3 from c47), if_neg (show ¬ y.t = 4 from c60), if_neg (show ¬ y.t = 5 from c93), if_pos (show y.t = 8 from c138)]; rw [Tlv.with_zero (upd_stamps x (tlv0 y.t) (⟨y.l, 0⟩ : Rs) false)], upd_stamps x (tlv0 y.t) (⟨y.l, 0⟩ : Rs) false, rfl⟩))) ⟨rfl, rfl, trivial⟩
      ·refine Sg 1 E3 <| Zl hk19 <| Zf <| Run.seq fun _ hk20 => Zs fun _ hk21 => Qp 0 E2 (Ze E3) <| J.caseD (fun c143 => ?_) (fun c143 => ?_)
       ·refine Sg 1 E3 <| Zl hk21 <| Zt <| Run.skip <| hk20 _ _ <| Zt <| Run.region <| Mv 0 E3 <| Ef 1 E2 (Zc E2 ce81 Tk2 (fun F' hle hr => request_spec F' (t := (tlv0 y.t)) (bad := false) (r := (⟨y.l, 0⟩ : Rs)) hyl)) ?_
        rintro _ _ ⟨_, ⟨rfl, rfl⟩, rfl⟩
        refine J.app <| Sq.nil <| J.addSl 101 1 u32E ?_
        exact J.envJ (J.keep Tk8 (hu3 ((reqF (tlv0 y.t) (⟨y.l, 0⟩ : Rs) false).1) (((reqF (tlv0 y.t) (⟨y.l, 0⟩ : Rs) false).2.1, (reqF (tlv0 y.t) (⟨y.l, 0⟩ : Rs) false).2.2)) (idp) (x) ([]) (Slc.zero) (⟨by unfold readF; simp only; rw [if_neg (show ¬ y.t = 2 from c20), if_neg (show ¬ y.t = 3 from c47), if_neg (show ¬ y.t = 4 from c60), if_neg (show ¬ y.t = 5 from c93), if_neg (show ¬ y.t = 8 from c138), if_pos (Or.inl (show y.t = 9 from c143))]; rw [Tlv.with_zero (req_stamps (tlv0 y.t) (⟨y.l, 0⟩ : Rs) false)], req_stamps (tlv0 y.t) (⟨y.l, 0⟩ : Rs) false, rfl⟩))) ⟨rfl, rfl, trivial⟩
       ·refine Sg 1 E3 <| Zl hk21 <| Zf <| Run.region <| Qp 0 E2 (Ze E3) <| J.caseD (fun c144 => ?_) (fun c144 => ?_)
        ·refine Sg 1 E3 <| Zl hk20 <| Zt <| Run.region <| Mv 0 E3 <| Ef 1 E2 (Zc E2 ce81 Tk2 (fun F' hle hr => request_spec F' (t := (tlv0 y.t)) (bad := false) (r := (⟨y.l, 0⟩ : Rs)) hyl)) ?_
         rintro _ _ ⟨_, ⟨rfl, rfl⟩, rfl⟩
         refine J.app <| Sq.nil <| J.addSl 101 1 u32E ?_
         exact J.envJ (J.keep Tk8 (hu3 ((reqF (tlv0 y.t) (⟨y.l, 0⟩ : Rs) false).1) (((reqF (tlv0 y.t) (⟨y.l, 0⟩ : Rs) false).2.1, (reqF (tlv0 y.t) (⟨y.l, 0⟩ : Rs) false).2.2)) (idp) (x) ([]) (Slc.zero) (⟨by unfold readF; simp only; rw [if_neg (show ¬ y.t = 2 from c20), if_neg (show ¬ y.t = 3 from c47), if_neg (show ¬ y.t = 4 from c60), if_neg (show ¬ y.t = 5 from c93), if_neg (show ¬ y.t = 8 from c138), if_pos (Or.inr (show y.t = 10 from c144))]; rw [Tlv.with_zero (req_stamps (tlv0 y.t) (⟨y.l, 0⟩ : Rs) false)], req_stamps (tlv0 y.t) (⟨y.l, 0⟩ : Rs) false, rfl⟩))) ⟨rfl, rfl, trivial⟩
        ·refine Sg 1 E3 <| Zl hk20 <| Zf <| Run.seq fun _ hk22 => Zs fun _ hk23 => Qp 0 E2 (Ze E3) <| J.caseD (fun c148 => ?_) (fun c148 => ?_)
         ·refine Sg 1 E3 <| Zl hk23 <| Zt <| Run.skip <| hk22 _ _ <| Zt <| Zs fun _ hk24 => Mv 0 E3 <| Mv 1 E3 <| Ef 2 E2 (Zc E2 ce82 Tk6 (fun F' hle hr => tells_spec F' (b := b15) (rb := rb) (t := (tlv0 y.t)) (bad := false) (r := (⟨y.l, 0⟩ : Rs)) x)) ?_
          rintro _ _ ⟨_, ⟨idpT, rfl, rfl⟩, rfl⟩
          refine J.app <| Zl hk24 <| Zs fun _ hk25 => Qp 0 E2 (QP.build (l := Tlv.enc Tlv.zero) rfl st49 rfl (by exact trivial) rfl) <| Ac 1 rfl (EF.storeA rfl rfl rfl z49 (SetL.all (Tlv.enc_len _) (Tlv.enc_len _)) (Tlv.enc_cell _)) ?_
          rintro _ _ rfl
          refine Sg 2 E3 <| Zl hk25 <| Run.ret ?_
          have hR : readF x y.t y.l = ((Tlv.zero, false, []), (tellF x (tlv0 y.t) (⟨y.l, 0⟩ : Rs) false).2.2) := by unfold readF; simp only; rw [if_neg (show ¬ y.t = 2 from c20), if_neg (show ¬ y.t = 3 from c47), if_neg (show ¬ y.t = 4 from c60), if_neg (show ¬ y.t = 5 from c93), if_neg (show ¬ y.t = 8 from c138), if_neg (show ¬ (y.t = 9 ∨ y.t = 10) from fun h => h.elim c143 c144), if_pos (Or.inl (show y.t = 6 from c148))]
          rw [hR]
          refine J.addSl 101 1 u32E ?_
          exact J.ends (m := [blk xb (PacketParser.enc ⟨⟨idpT, some hm, some bm⟩⟩) 132, mapH hm (tellF x (tlv0 y.t) (⟨y.l, 0⟩ : Rs) false).2.2.hops, mapB bm (tellF x (tlv0 y.t) (⟨y.l, 0⟩ : Rs) false).2.2.bases, idA idpT (tellF x (tlv0 y.t) (⟨y.l, 0⟩ : Rs) false).2.2.id, slA 101 1 u32E (.slice none 0 0) []]) (res_cell2 rfl rfl g49 (Tlv.enc_sub _) rfl) Tk5 ⟨idpT, none, 0, rfl, rfl⟩
         ·refine Sg 1 E3 <| Zl hk23 <| Zf <| Run.region <| Qp 0 E2 (Ze E3) <| J.caseD (fun c149 => ?_) (fun c149 => ?_)
          ·refine Sg 1 E3 <| Zl hk22 <| Zt <| Zs fun _ hk26 => Mv 0 E3 <| Mv 1 E3 <| Ef 2 E2 (Zc E2 ce82 Tk6 (fun F' hle hr => tells_spec F' (b := b15) (rb := rb) (t := (tlv0 y.t)) (bad := false) (r := (⟨y.l, 0⟩ : Rs)) x)) ?_
           rintro _ _ ⟨_, ⟨idpT, rfl, rfl⟩, rfl⟩
           refine J.app <| Zl hk26 <| Zs fun _ hk27 => Qp 0 E2 (QP.build (l := Tlv.enc Tlv.zero) rfl st49 rfl (by exact trivial) rfl) <| Ac 1 rfl (EF.storeA rfl rfl rfl z49 (SetL.all (Tlv.enc_len _) (Tlv.enc_len _)) (Tlv.enc_cell _)) ?_
           rintro _ _ rfl
           refine Sg 2 E3 <| Zl hk27 <| Run.ret ?_
           have hR : readF x y.t y.l = ((Tlv.zero, false, []), (tellF x (tlv0 y.t) (⟨y.l, 0⟩ : Rs) false).2.2) := by unfold readF; simp only; rw [if_neg (show ¬ y.t = 2 from c20), if_neg (show ¬ y.t = 3 from c47), if_neg (show ¬ y.t = 4 from c60), if_neg (show ¬ y.t = 5 from c93), if_neg (show ¬ y.t = 8 from c138), if_neg (show ¬ (y.t = 9 ∨ y.t = 10) from fun h => h.elim c143 c144), if_pos (Or.inr (show y.t = 7 from c149))]
           rw [hR]
           refine J.addSl 101 1 u32E ?_
           exact J.ends (m := [blk xb (PacketParser.enc ⟨⟨idpT, some hm, some bm⟩⟩) 132, mapH hm (tellF x (tlv0 y.t) (⟨y.l, 0⟩ : Rs) false).2.2.hops, mapB bm (tellF x (tlv0 y.t) (⟨y.l, 0⟩ : Rs) false).2.2.bases, idA idpT (tellF x (tlv0 y.t) (⟨y.l, 0⟩ : Rs) false).2.2.id, slA 101 1 u32E (.slice none 0 0) []]) (res_cell2 rfl rfl g49 (Tlv.enc_sub _) rfl) Tk5 ⟨idpT, none, 0, rfl, rfl⟩
          ·refine Sg 1 E3 <| Zl hk22 <| Zf <| Zs fun _ hk28 => Qp 0 E2 (QP.build (l := Tlv.enc Tlv.zero) rfl st49 rfl (by exact trivial) rfl) <| Ac 1 rfl (EF.storeA rfl rfl rfl z49 (SetL.all (Tlv.enc_len _) (Tlv.enc_len _)) (Tlv.enc_cell _)) ?_
           rintro _ _ rfl
           refine Sg 2 E3 <| Zl hk28 <| Run.ret ?_
           have hR : readF x y.t y.l = ((Tlv.zero, false, []), x) := by unfold readF; simp only; rw [if_neg (show ¬ y.t = 2 from c20), if_neg (show ¬ y.t = 3 from c47), if_neg (show ¬ y.t = 4 from c60), if_neg (show ¬ y.t = 5 from c93), if_neg (show ¬ y.t = 8 from c138), if_neg (show ¬ (y.t = 9 ∨ y.t = 10) from fun h => h.elim c143 c144), if_neg (show ¬ (y.t = 6 ∨ y.t = 7) from fun h => h.elim c148 c149)]
           rw [hR]
           refine J.addSl 101 1 u32E ?_
           exact J.ends (m := [blk xb (PacketParser.enc ⟨⟨idp, some hm, some bm⟩⟩) 132, mapH hm x.hops, mapB bm x.bases, idA idp x.id, slA 101 1 u32E (.slice none 0 0) []]) (res_cell2 rfl rfl g49 (Tlv.enc_sub _) rfl) Tk5 ⟨idp, none, 0, rfl, rfl⟩
end Slb
