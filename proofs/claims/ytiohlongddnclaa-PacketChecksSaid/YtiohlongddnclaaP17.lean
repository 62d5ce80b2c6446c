/- P17: a part of the proof that a law of this package holds for every input; no condition. -/
import Derived.Test.YtiohlongddnclaaM2
import Derived.Test.YtiohlongddnclaaP15
import Derived.KernelRfl
namespace Slb
open Go Go.Proofs
set_option maxRecDepth 20000
def liveSrc : Bs 16 := ⟨[254, 128, 0, 0, 0, 0, 0, 0, 0, 0, 0, 0, 0, 0, 0, 1], rfl⟩
def liveA : List UInt8 := [4, 6, 0, 0, 0, 5, 0, 100]
def liveB : List UInt8 := [6, 10, 0, 0, 97, 98, 99, 100, 101, 102, 103, 104, 7, 6, 1, 0, 10, 0, 0, 9, 8, 13, 1, 128, 24, 0, 0, 100, 0, 1, 0, 32, 10, 1, 2, 8, 11, 1, 0, 24, 2, 0, 100, 0, 1, 0, 32, 3]
def liveT1 : Tlv := { Tlv.zero with type := 4, seqno := 5, interval := 100 }
theorem live_a : parseF liveSrc (wrapL liveA) = ([(liveT1, [])], 0) := by kernel_rfl
theorem live_b1 : (parseF liveSrc (wrapL liveB)).1.length = 2 := by kernel_rfl
theorem live_b2 : (parseF liveSrc (wrapL liveB)).2 = 0 := by kernel_rfl
def liveT : Tlv := { Tlv.zero with type := 8, interval := 100, seqno := 1, metric := 32, id_ := ⟨[97, 98, 99, 100, 101, 102, 103, 104], rfl⟩, addr := ⟨[0, 0, 0, 0, 0, 0, 0, 0, 0, 0, 255, 255, 10, 0, 0, 9], rfl⟩, pair := ⟨⟨⟨[0, 0, 0, 0, 0, 0, 0, 0, 0, 0, 255, 255, 10, 1, 3, 0], rfl⟩, ⟨120, by decide⟩⟩, any4⟩ }
theorem live_b3 : (parseF liveSrc (wrapL liveB)).1[1]? = some (liveT, []) := by kernel_rfl
theorem live_c {a : Option Addr} {c : Nat} : checkF { liveT with stamps := ⟨a, 0, c⟩ } = 0 := by kernel_rfl

theorem wrap_ofNat (k : Nat) : IntKind.u8.wrap (k : Int) = ((UInt8.ofNat k).toNat : Int) := by
  unfold IntKind.wrap
  simp only [show (IntKind.u8.bits : Nat) = 8 from rfl, show IntKind.u8.signed = false from rfl]
  simp
theorem tlv_of {y : TlvX} {t : Tlv} (h : tlvM y = (t, [])) : tlvS y = { t with stamps := ⟨y.a, 0, y.c⟩ } := by
  obtain ⟨yt, a, c, l⟩ := y
  simp only [tlvM, Prod.mk.injEq] at h
  obtain ⟨h1, rfl⟩ := h
  subst h1
  rfl
theorem tlv_at {ts : List TlvX} {L : List (Tlv × List Int)} {i : Nat} {y : TlvX} {t : Tlv} (hi : ts[i]? = some y) (hm : ts.map tlvM = L) (hL : L[i]? = some (t, [])) : tlvS y = { t with stamps := ⟨y.a, 0, y.c⟩ } := by
  refine tlv_of ?_
  rw [← hm, List.getElem?_map, hi] at hL
  exact Option.some.inj hL
theorem liveA_parse (F : Fr) {a : Option Addr} {c : Nat} (ha : ArgSl F a 1 bytE (wrapL liveA)) : Spec Try.prog 8 #[.agg (Bs.enc liveSrc).toArray, .slice a (wrapL liveA).length c] [] F fun v S => ∃ (ts : List TlvX) (va : Value), v = .tuple #[va, .int .i64 0] ∧ ts.map tlvM = [(liveT1, [])] ∧ S = [slA 41 68 tlvE va ts, rowsT ts] := by
  refine (parse_spec F liveSrc (by decide) ha).mono ?_
  rintro v S ⟨ts, va, h1, h2, h3⟩
  rw [live_a] at h1 h2
  exact ⟨ts, va, h1, h2, h3⟩
theorem liveB_parse (F : Fr) {a : Option Addr} {c : Nat} (ha : ArgSl F a 1 bytE (wrapL liveB)) : Spec Try.prog 8 #[.agg (Bs.enc liveSrc).toArray, .slice a (wrapL liveB).length c] [] F fun v S => ∃ (ts : List TlvX) (va : Value), v = .tuple #[va, .int .i64 0] ∧ (ts.length = 2 ∧ ∃ y, ts[Int.toNat 1]? = some y ∧ tlvS y = { liveT with stamps := ⟨y.a, 0, y.c⟩ }) ∧ S = [slA 41 68 tlvE va ts, rowsT ts] := by
  refine (parse_spec F liveSrc (by decide) ha).mono ?_
  rintro v S ⟨ts, va, h1, h2, h3⟩
  rw [live_b2] at h1
  have hl : ts.length = 2 := by
    have := congrArg List.length h2
    rw [List.length_map, live_b1] at this
    exact this
  obtain ⟨y, hy⟩ : ∃ y, ts[1]? = some y := ⟨_, List.getElem?_eq_getElem (by omega)⟩
  exact ⟨ts, va, h1, ⟨hl, y, hy, tlv_at hy h2 live_b3⟩, h3⟩
theorem wrap_len (bs : List UInt8) : (wrapL bs).length = 4 + bs.length := by unfold wrapL; simp; omega

theorem num6_spec (F : Fr) (a : Int) : Spec Try.prog 9 #[.int .i64 a] [] F (fun v S => v = .int .i64 a ∧ S = []) := by
 refine Spec.intro (N := 4) (args := [.int .i64 a]) Try.func9 rfl rfl (by simp) ?_
 refine Run.seq fun k1 hk1 => Run.region ?_
 show Sq _ _ _ [0] _ _ _ _
 refine Sg 0 rfl rfl rfl <| Sq.nil <| hk1 _ _ <| Run.seq fun k2 hk2 => Run.region ?_
 show Sq _ _ _ [0, 1] _ _ _ _
 refine Mv 0 rfl rfl rfl <| Sg 1 rfl rfl rfl <| Sq.nil <| hk2 _ _ <| Run.ret ?_
 exact J.ends (res_tmp rfl rfl) Takes.nil ⟨rfl, rfl⟩

theorem wrap_spec (F : Fr) (s : ByteArray) (bs : List UInt8) (hb : s.data.toList = bs) (hl : bs.length ≤ 65535) : Spec Try.prog 12 #[.string s] [] F (fun v S => S = [slA 5 1 bytE v (wrapL bs)]) := by
 have hsz : s.size = bs.length := by rw [← hb, Array.length_toList]; rfl
 refine Spec.intro (N := 13) (args := [.string s]) Try.func12 rfl rfl (by simp) ?_
 refine Run.seq fun k1 hk1 => Run.region ?_
 show Sq _ _ _ [0] _ _ _ _
 refine Sg 0 rfl rfl rfl <| Sq.nil <| hk1 _ _ <| Run.seq fun k2 hk2 => Run.region ?_
 show Sq _ _ _ [0, 1, 2, 3, 4, 5, 6, 7, 8, 9, 10] _ _ _ _
 refine Mv 0 rfl rfl rfl <| Qp 1 rfl rfl (QP.lenS rfl rfl rfl Try.underlying9) <| Qp 2 rfl rfl (QP.shr64 rfl rfl rfl (by decide) (by decide)) ?_
 rw [show (s.size : Int) / 2 ^ (8 : Int).toNat = ((bs.length / 256 : Nat) : Int) by rw [hsz]; rfl]
 refine Qp 3 rfl rfl (QP.conv rfl rfl Try.underlying3 Try.underlying5) ?_
 rw [wrap_ofNat]
 refine Mv 4 rfl rfl rfl <| Qp 5 rfl rfl (QP.lenS rfl rfl rfl Try.underlying9) <| Qp 6 rfl rfl (QP.conv rfl rfl Try.underlying3 Try.underlying5) ?_
 rw [hsz, wrap_ofNat]
 refine Ef 7 rfl rfl (EF.buildSliceS rfl Try.underlying24 z5 zero5 rfl (by decide) rfl rfl rfl rfl) ?_
 rintro _ _ ⟨b10, rfl, rfl⟩
 refine J.close (A := slA 5 1 bytE (.slice (some ⟨b10, 0, none⟩) 4 4) [42, 2, UInt8.ofNat (bs.length / 256), UInt8.ofNat bs.length]) (m := [blk b10 [.int .u8 42, .int .u8 2, .int .u8 (UInt8.ofNat (bs.length / 256)).toNat, .int .u8 (UInt8.ofNat bs.length).toNat] 5]) Tk1 (fun _ q => slA_blk (xs := [42, 2, UInt8.ofNat (bs.length / 256), UInt8.ofNat bs.length]) rfl q) ?_
 refine Mv 8 rfl rfl rfl <| Ef 9 rfl rfl (EF.appendS (s := s) (xs := [42, 2, UInt8.ofNat (bs.length / 256), UInt8.ofNat bs.length]) el5 rfl rfl rfl Try.underlying24 Try.underlying9 rfl rfl Rc (by simp; omega)) ?_
 rintro sl11 _ rfl
 refine Sg 10 rfl rfl rfl <| Sq.nil <| hk2 _ _ <| Run.ret ?_
 exact J.ends (res_tmp rfl rfl) Tk1 (by rw [hb]; rfl)

set_option maxHeartbeats 1000000 in
theorem live_spec (F : Fr)  : Spec Try.prog 7 #[] [] F (fun v S => v = .bool true ∧ S = []) := by
 refine Spec.intro (N := 92) (args := []) Try.func7 rfl rfl (by simp) ?_
 refine Run.seq fun k1 hk1 => Run.region ?_
 show Sq _ _ _ [0] _ _ _ _
 refine Sg 0 rfl rfl rfl <| Sq.nil <| hk1 _ _ <| Run.seq fun k2 hk2 => Run.region ?_
 show Sq _ _ _ [0, 1, 2] _ _ _ _
 refine Qp 0 rfl rfl (QP.const (.agg (Bs.enc liveSrc).toArray) (fun _ _ => by kernel_rfl)) <| Ef 1 rfl rfl (EF.allocA (l := (Bs.zero 16).enc) rfl zero23) ?_
 rintro _ _ ⟨b1, rfl, rfl⟩
 refine Ac 2 rfl (EF.storeA rfl rfl rfl z23 (SetL.all (Bs.len _) (Bs.len _)) (Bs.cell _)) ?_
 rintro _ _ rfl
 refine Sq.nil <| hk2 _ _ <| Run.seq fun k3 hk3 => Run.regionM (M := [0, 0, 3, 7, 15, 15, 31, 127]) (q := 57) (r := 1) mixedT Kr ?_
 refine Dr 0 rfl rfl (QR.load rfl rfl g23 (Bs.sub _)) ?_
 refine De 1 <| Om [0] rfl rfl (EF.call rfl ce12 rfl Takes.nil (fun F' hle hr => wrap_spec F' _ liveA rfl (by decide))) ?_
 rintro v10 _ ⟨_, rfl, rfl⟩
 refine ⟨?_, ?_⟩
 ·rw [List.forall_mem_cons]
  refine ⟨?_, fun _ h => (by cases h)⟩
  ·refine Look.app ?_
   exact Look.mk rfl rfl rfl (QR.load rfl rfl g23 (Bs.sub _))
 refine ?_
 refine J.app ?_
 refine Dw.slCase (v := v10) (xs := (wrapL liveA)) Rc (fun a10 c10 hv10 hh10 => ?_)
 subst hv10
 refine De 2 <| Om [] rfl rfl (EF.call rfl ce8 rfl Tk1 (fun F' hle hr => Spec.lendSl (e := 5) (z := 1) (enc := bytE) (xs := wrapL liveA) (fun _ => rfl) (fun F2 _ h2 => liveA_parse F2 h2))) ?_
 rintro _ _ ⟨_, ⟨_, ⟨ts1, va1, rfl, hm1, rfl⟩, rfl⟩, rfl⟩
 refine ⟨fun _ h => (by cases h), ?_⟩
 refine J.app ?_
 refine Dp 3 rfl rfl (QP.move rfl rfl) <| Dp 4 rfl rfl (QP.extract rfl rfl rfl) <| Dp 5 rfl rfl (QP.extract rfl rfl rfl) <| De 6 <| Om [] rfl rfl ((QP.assign rfl rfl).eff) ?_
 rintro va1 _ ⟨rfl, rfl⟩
 refine ⟨fun _ h => (by cases h), ?_⟩
 refine De 7 <| Om [] rfl rfl ((QP.assign rfl rfl).eff) ?_
 rintro _ _ ⟨rfl, rfl⟩
 refine ⟨fun _ h => (by cases h), ?_⟩
 refine Dn <| hk3 _ _ <| Run.seq fun k4 hk4 => Run.regionM (M := [0, 0, 3, 7, 15, 15, 31, 127]) (q := 57) (r := 1) mixedT Kr ?_
 refine Dr 0 rfl rfl (QR.load rfl rfl g23 (Bs.sub _)) ?_
 refine De 1 <| Om [0] rfl rfl (EF.call rfl ce12 rfl Takes.nil (fun F' hle hr => wrap_spec F' _ liveB rfl (by decide))) ?_
 rintro v16 _ ⟨_, rfl, rfl⟩
 refine ⟨?_, ?_⟩
 ·rw [List.forall_mem_cons]
  refine ⟨?_, fun _ h => (by cases h)⟩
  ·refine Look.app ?_
   exact Look.mk rfl rfl rfl (QR.load rfl rfl g23 (Bs.sub _))
 refine ?_
 refine J.app ?_
 refine Dw.slCase (v := v16) (xs := (wrapL liveB)) Rc (fun a16 c16 hv16 hh16 => ?_)
 subst hv16
 refine De 2 <| Om [] rfl rfl (EF.call rfl ce8 rfl Tk1 (fun F' hle hr => Spec.lendSl (e := 5) (z := 1) (enc := bytE) (xs := wrapL liveB) (fun _ => rfl) (fun F2 _ h2 => liveB_parse F2 h2))) ?_
 rintro _ _ ⟨_, ⟨_, ⟨ts2, va2, rfl, ⟨hl2, y2, hi2, e2⟩, rfl⟩, rfl⟩, rfl⟩
 refine ⟨fun _ h => (by cases h), ?_⟩
 refine J.app ?_
 refine Dp 3 rfl rfl (QP.move rfl rfl) <| Dp 4 rfl rfl (QP.extract rfl rfl rfl) <| Dp 5 rfl rfl (QP.extract rfl rfl rfl) <| De 6 <| Om [] rfl rfl ((QP.assign rfl rfl).eff) ?_
 rintro va2 _ ⟨rfl, rfl⟩
 refine ⟨fun _ h => (by cases h), ?_⟩
 refine De 7 <| Om [] rfl rfl ((QP.assign rfl rfl).eff) ?_
 rintro _ _ ⟨rfl, rfl⟩
 refine ⟨fun _ h => (by cases h), ?_⟩
 refine Dn <| hk4 _ _ <| Run.seq fun k5 hk5 => Run.seq fun k6 hk6 => Run.region ?_
 show Sq _ _ _ [0, 1, 2, 3, 4, 5, 6, 7, 8, 9, 10, 11, 12, 13, 14, 15, 16, 17, 18, 19, 20, 21, 22, 23, 24, 25, 26, 27, 28, 29, 30, 31] _ _ _ _
 refine Sq.slCase (v := va1) (xs := ts1) Rc (fun ap1 cp1 hvp1 hhp1 => ?_)
 subst hvp1
 refine Sq.slCase (v := va2) (xs := ts2) Rc (fun ap2 cp2 hvp2 hhp2 => ?_)
 subst hvp2
 have hl1 : ts1.length = 1 := by have := congrArg List.length hm1; rwa [List.length_map] at this
 obtain ⟨y1, hi1⟩ : ∃ y, ts1[Int.toNat 0]? = some y := ⟨_, List.getElem?_eq_getElem (by show 0 < ts1.length; omega)⟩
 have e1 := tlv_at (i := 0) (t := liveT1) hi1 hm1 rfl
 obtain ⟨q1, o1, rfl⟩ := hhp1.get (by omega)
 obtain ⟨q2, o2, rfl⟩ := hhp2.get (by omega)
 refine Mv 0 rfl rfl rfl <| Ef 1 rfl rfl (EF.call rfl ce9 rfl Takes.nil (fun F' hle hr => num6_spec F' _)) ?_
 rintro _ _ ⟨_, ⟨rfl, rfl⟩, rfl⟩
 refine J.app ?_
 refine Qp 2 rfl rfl (QP.neq rfl rfl rfl) <| Mv 3 rfl rfl rfl <| Ym 4 rfl rfl rfl rfl <| Ye 5 rfl rfl rfl (EF.call rfl ce9 rfl Takes.nil (fun F' hle hr => num6_spec F' _)) ?_
 rintro _ _ ⟨_, ⟨rfl, rfl⟩, rfl⟩
 refine J.app ?_
 refine Yp 6 rfl rfl rfl (QP.neq rfl rfl rfl) <| Pf 7 rfl rfl rfl rfl <| Mv 8 rfl rfl rfl <| Ym 9 rfl rfl rfl rfl <| Yp 10 rfl rfl rfl (QP.len rfl rfl rfl Try.underlying26) <| Yp 11 rfl rfl rfl (QP.neq rfl rfl rfl) <| J.decF (by omega) ?_
 refine Pf 12 rfl rfl rfl rfl <| Mv 13 rfl rfl rfl <| Ym 14 rfl rfl rfl rfl <| Yp 15 rfl rfl rfl (QP.indexAddr rfl rfl rfl Try.underlying26 z41 Og Og) <| Yf 16 rfl rfl rfl rfl f41_3 <| Yq 17 rfl rfl rfl (QR.loadSlF1 rfl rfl g32 tlvE_len (SlAt.own tlvE_len Rc) hi1 (Tlv.sub_seqno _)) ?_
 refine Yp 18 rfl rfl rfl (QP.neq rfl rfl rfl) <| J.decF (by rw [e1]; exact fun h => h rfl) ?_
 refine Pf 19 rfl rfl rfl rfl <| Mv 20 rfl rfl rfl <| Ym 21 rfl rfl rfl rfl <| Yp 22 rfl rfl rfl (QP.indexAddr rfl rfl rfl Try.underlying26 z41 Og Og) <| Yf 23 rfl rfl rfl rfl f41_2 <| Yq 24 rfl rfl rfl (QR.loadSlF1 rfl rfl g32 tlvE_len (SlAt.own tlvE_len Rc) hi1 (Tlv.sub_interval _)) ?_
 refine Yp 25 rfl rfl rfl (QP.neq rfl rfl rfl) <| J.decF (by rw [e1]; exact fun h => h rfl) ?_
 refine Pf 26 rfl rfl rfl rfl <| Mv 27 rfl rfl rfl <| Ym 28 rfl rfl rfl rfl <| Yp 29 rfl rfl rfl (QP.len rfl rfl rfl Try.underlying26) <| Yp 30 rfl rfl rfl (QP.neq rfl rfl rfl) <| J.decF (by omega) ?_
 refine Pf 31 rfl rfl rfl rfl <| Sq.nil <| hk6 _ _ <| Run.cond_f rfl <| Run.skip <| hk5 _ _ <| Run.seq fun k7 hk7 => Run.region ?_
 show Sq _ _ _ [0, 1, 2, 3] _ _ _ _
 refine Qp 0 rfl rfl (QP.const (.agg (Bs.enc liveT.pair.dst.a).toArray) (fun _ _ => by kernel_rfl)) <| Qp 1 rfl rfl (QP.build (l := Prefix.enc liveT.pair.dst) rfl st36 rfl (by exact ⟨(congrArg some (Bs.len _).symm), ⟨rfl, trivial⟩⟩) rfl) <| Ef 2 rfl rfl (EF.allocA (l := Prefix.enc Prefix.zero) rfl zero36) ?_
 rintro _ _ ⟨b6, rfl, rfl⟩
 refine Ac 3 rfl (EF.storeA rfl rfl rfl z36 (SetL.all (Prefix.enc_len _) (Prefix.enc_len _)) (Prefix.enc_cell _)) ?_
 rintro _ _ rfl
 refine Sq.nil <| hk7 _ _ <| Run.seq fun k8 hk8 => Run.regionD (M := [0, 1, 3, 7, 15, 0, 63, 127, 255, 511, 1023, 2047, 4095, 8191, 16383, 32767, 65535, 131071, 262143, 32767, 1048575, 2097151, 4194303, 8388607, 16777215, 33554431, 67108863, 134217727, 268435455, 536870911, 1073741823, 2147483647, 4294967295, 8589934591, 17179869183, 34359738367, 68719476735, 137438953471, 274877906943]) (q := 223338299391) (r := 8724416560) Kr ?_
 refine Dp 0 rfl rfl (QP.move rfl rfl) <| Dp 1 rfl rfl (QP.indexAddr rfl rfl rfl Try.underlying26 z41 Og Og) <| Dp 2 rfl rfl (QP.fieldAddr rfl rfl f41_11) <| Dp 3 rfl rfl (QP.fieldAddr rfl rfl f38_0) <| Dr 4 rfl rfl (QR.loadSlF rfl rfl g36 tlvE_len (SlAt.own tlvE_len Rc) hi2 ((Tlv.sub_pair _).trans (Pair.sub_dst _))) ?_
 refine Dr 5 rfl rfl (QR.load rfl rfl g36 (Prefix.enc_sub _)) ?_
 refine Dp 6 rfl rfl (QP.eql_agg eq36 rfl rfl rfl) <| J.decT (by rw [e2]) ?_
 refine Dp 7 rfl rfl (QP.move rfl rfl) <| Dy 8 rfl rfl rfl (QP.move rfl rfl) <| Dy 9 rfl rfl rfl (QP.indexAddr rfl rfl rfl Try.underlying26 z41 Og Og) <| Dy 10 rfl rfl rfl (QP.fieldAddr rfl rfl f41_5) <| Dz 11 rfl rfl rfl (QR.loadSlF1 rfl rfl g32 tlvE_len (SlAt.own tlvE_len Rc) hi2 (Tlv.sub_metric _)) ?_
 refine Dy 12 rfl rfl rfl (QP.eql rfl rfl rfl) <| J.decT (by rw [e2]; rfl) ?_
 refine Dp 13 rfl rfl (QP.pick_t rfl rfl rfl) <| Dp 14 rfl rfl (QP.move rfl rfl) <| Dy 15 rfl rfl rfl (QP.move rfl rfl) <| Dy 16 rfl rfl rfl (QP.indexAddr rfl rfl rfl Try.underlying26 z41 Og Og) <| Dy 17 rfl rfl rfl (QP.fieldAddr rfl rfl f41_9) <| Dz 18 rfl rfl rfl (QR.loadSlF rfl rfl g34 tlvE_len (SlAt.own tlvE_len Rc) hi2 (Tlv.sub_id_ _)) ?_
 refine Dy 19 rfl rfl rfl (QP.const (.agg (Bs.enc (⟨[97, 98, 99, 100, 101, 102, 103, 104], rfl⟩ : Bs 8)).toArray) (fun _ _ => by kernel_rfl)) <| Dy 20 rfl rfl rfl (QP.eql_agg eq34 rfl rfl rfl) <| J.decT (by rw [e2]; rfl) ?_
 refine Dp 21 rfl rfl (QP.pick_t rfl rfl rfl) <| Dp 22 rfl rfl (QP.move rfl rfl) <| Dy 23 rfl rfl rfl (QP.move rfl rfl) <| Dy 24 rfl rfl rfl (QP.indexAddr rfl rfl rfl Try.underlying26 z41 Og Og) <| Dy 25 rfl rfl rfl (QP.fieldAddr rfl rfl f41_10) <| Dy 26 rfl rfl rfl (QP.indexArr rfl rfl rfl Try.underlying23 z5 Og Og) <| Dz 27 rfl rfl rfl (QR.loadSlF1 rfl rfl g5 tlvE_len (SlAt.own tlvE_len Rc) hi2 ((Tlv.sub_addr _).trans (Bs.subAt _ (i := 15) (c := 9) (by rw [e2]; rfl) rfl))) ?_
 refine Dy 28 rfl rfl rfl (QP.eql rfl rfl rfl) <| Dp 29 rfl rfl (QP.pick_t rfl rfl rfl) <| Dp 30 rfl rfl (QP.move rfl rfl) <| Dy 31 rfl rfl rfl (QP.move rfl rfl) <| Dy 32 rfl rfl rfl (QP.indexAddr rfl rfl rfl Try.underlying26 z41 Og Og) <| Dz 33 rfl rfl rfl (QR.loadSl (y := y2) rfl rfl g41 tlvE_len (SlAt.own tlvE_len Rc) hi2) ?_
 refine De 34 <| One.mk (o := _) (l := []) rfl Kr (Want.yes rfl rfl rfl rfl) rfl (ltN rfl) (EF.call rfl ce10 rfl Takes.nil (fun F' hle hr => check_tlv F' (tlvS y2))) Kr ?_
 rintro _ _ ⟨_, ⟨rfl, rfl⟩, rfl⟩
 refine ⟨fun _ h => (by cases h), ?_⟩
 refine J.app ?_
 refine De 35 <| One.mk (o := _) (l := []) rfl Kr (Want.yes rfl rfl rfl rfl) rfl (ltN rfl) (EF.call rfl ce9 rfl Takes.nil (fun F' hle hr => num6_spec F' _)) Kr ?_
 rintro _ _ ⟨_, ⟨rfl, rfl⟩, rfl⟩
 refine ⟨fun _ h => (by cases h), ?_⟩
 refine J.app ?_
 refine Dy 36 rfl rfl rfl (QP.eql rfl rfl rfl) <| J.decT (by rw [e2]; exact live_c) ?_
 refine Dp 37 rfl rfl (QP.pick_t rfl rfl rfl) <| De 38 <| Om [] rfl rfl ((QP.assign rfl rfl).eff) ?_
 rintro _ _ ⟨rfl, rfl⟩
 refine ⟨fun _ h => (by cases h), ?_⟩
 refine Dn <| hk8 _ _ <| Run.ret ?_
 exact J.ends (res_tmp rfl rfl) Takes.nil ⟨rfl, rfl⟩
end Slb
