/- I32: a part of the proof that a law of this package holds for every input; no condition. -/
import Derived.Test.YtfokodhfjdhdaaaM2
import Derived.Test.YtfokodhfjdhdaaaI31
namespace Slb
open Go Go.Proofs
set_option maxRecDepth 20000
theorem slA_arr {b n i k off : Nat} {x : Bs n} {l : List Value} {ty : TypeId} (hs : SubL l off n x.enc) (h : i + k ≤ n) {p : PH} (hp : stars [blk b l ty] p) : slA ty 1 bytE (.slice (some ⟨b, off + i, none⟩) k (n - i)) ((x.l.drop i).take k) p := by
  obtain ⟨pre, post, rfl, h1, h2⟩ := hs
  have hx := x.h
  have hlen : ((x.l.drop i).take k).length = k := by rw [List.length_take, List.length_drop]; omega
  have hp2 : blk b (pre ++ x.enc ++ post) ty p := stars_one.1 hp
  refine .inr ⟨b, off + i, n - i, pre ++ bytesV (x.l.take i), bytesV ((x.l.drop i).drop k), post, by rw [hlen], ?_, by rw [List.length_append, bytesV_length, List.length_take, h1]; omega, by rw [hlen]; omega, by rw [hlen, bytesV_length, List.length_drop, List.length_drop]; omega⟩
  rw [show p = _ from hp2, flat_byt]
  congr 2
  unfold Bs.enc bytesV
  simp only [List.append_assoc]
  congr 2
  have e : x.l = x.l.take i ++ ((x.l.drop i).take k ++ (x.l.drop i).drop k) := by rw [List.take_append_drop, List.take_append_drop]
  conv => lhs; rw [e]
  simp only [List.map_append, List.append_assoc]
def locB (a : Bs 16) : Bs 16 := llB.patch 8 ((a.l.drop 8).take 8)
/-- An address's kind and bytes. -/
def adF (a : Bs 16) : UInt8 × List UInt8 := if a = locB a then (3, (a.l.drop 8).take 8) else if familyB a = 4 then (1, (a.l.drop 12).take 4) else (2, (a.l.drop 0).take 16)
/-- A prefix's kind, length and bytes. -/
def pxF (p : Prefix) : UInt8 × UInt8 × List UInt8 := if pfamilyB p = 4 then (1, UInt8.ofNat (p.len.val - 96).toNat, (p.a.l.drop 12).take ((p.len.val - 96 + 7) / 8).toNat) else (2, UInt8.ofNat p.len.val.toNat, (p.a.l.drop 0).take ((p.len.val + 7) / 8).toNat)
theorem wrap_u8n {n : Int} (h : 0 ≤ n) : IntKind.u8.wrap n = ((UInt8.ofNat n.toNat).toNat : Int) := by
  obtain ⟨k, rfl⟩ := Int.eq_ofNat_of_zero_le h
  exact wrap8_nat k
theorem arr_arg {F : Fr} {b off n : Nat} {l : List Value} {ty : TypeId} {fz : Nat × Nat} {x : Bs n} (h : F.h b = some (.cells l.toArray ty fz)) (hs : SubL l off n x.enc) : ArgSl F (some ⟨b, off, none⟩) 1 bytE x.l := fun _ => by
  refine ⟨b, off, rfl, l, ty, fz, h, ?_⟩
  rw [x.h, Nat.mul_one, flat_byt]
  exact hs
theorem pfam4 {p : Prefix} (h : pfamilyB p = 4) : 96 ≤ p.len.val := by
  unfold pfamilyB at h
  split at h
  · cases h
  · omega
def specB (p : Pair) : Bool := decide (p.src ≠ anyB (pfamilyB p.src))
def placeN (a : Bs 16) : Nat := if familyB a = 4 then 1 else 0
theorem off8 {b : Nat} : slOff (some ⟨b, 0, none⟩) 16 (Int.toNat 8) 1 = some ⟨b, 0 + 8, none⟩ := rfl
theorem off12 {b : Nat} : slOff (some ⟨b, 0, none⟩) 16 (Int.toNat 12) 1 = some ⟨b, 0 + 12, none⟩ := rfl

theorem paddr_spec (F : Fr) (a : Bs 16) : Spec Try.prog 66 #[.agg (Bs.enc a).toArray] [] F (fun v S => ∃ sv, v = .tuple #[.int .u8 ((adF a).1.toNat : Int), sv] ∧ S = [slA 23 1 bytE sv (adF a).2]) := by
 refine Spec.intro (N := 20) (args := [.agg (Bs.enc a).toArray]) Try.func66 rfl rfl (by simp) ?_
 refine Run.seq fun k1 hk1 => Run.region ?_
 show Sq _ _ _ [0, 1, 2] _ _ _ _
 refine Ef 0 rfl rfl (EF.boxA rfl rfl) ?_
 rintro _ _ ⟨b1, rfl, rfl⟩
 refine Sg 1 rfl rfl rfl <| Sg 2 rfl rfl rfl <| Sq.nil <| hk1 _ _ <| Run.seq fun k2 hk2 => Run.region ?_
 show Sq _ _ _ [0, 1, 2] _ _ _ _
 refine Qp 0 rfl rfl (QP.const (.agg (Bs.enc llB).toArray) (fun _ _ => by kernel_rfl)) <| Ef 1 rfl rfl (EF.allocA (l := (Bs.zero 16).enc) rfl zero23) ?_
 rintro _ _ ⟨b4, rfl, rfl⟩
 refine Ac 2 rfl (EF.storeA rfl rfl rfl z23 (SetL.all (Bs.len _) (Bs.len _)) (Bs.cell _)) ?_
 rintro _ _ rfl
 refine Sq.nil <| hk2 _ _ <| Run.seq fun k3 hk3 => Run.regionD (M := [0, 0, 3]) (q := 3) (r := 0) Kr ?_
 refine Dp 0 rfl rfl (QP.sliceArrLo rfl rfl rfl Try.underlying23 z5 (by decide) (by decide)) <| Dp 1 rfl rfl (QP.sliceArrLo rfl rfl rfl Try.underlying23 z5 (by decide) (by decide)) <| De 2 <| Om [] rfl rfl (EF.copySl (b := b4) (off := 0) (n := 16) (lo := 8) (k := 8) (ys := (a.l.drop 8).take 8) rfl rfl rfl rfl Try.underlying50 z5 (RowsAt.arr (b := b1) (x := a) Rc (by omega)) (fun h => by omega) (Bs.setPatch llB ((a.l.drop 8).take 8) (by omega))) ?_
 rintro _ _ ⟨rfl, rfl⟩
 refine ⟨fun _ h => (by cases h), ?_⟩
 refine Dn <| hk3 _ _ <| Run.seq fun k4 hk4 => Run.block <| Run.seq fun k5 hk5 => Run.region ?_
 show Sq _ _ _ [0, 1, 2, 3] _ _ _ _
 refine J.close (A := blk b4 (Bs.enc (locB a)) 23) (m := [blk b4 (Bs.enc (llB.patch 8 ((a.l.drop 8).take 8))) 23]) Tk1 (fun _ q => stars_one.1 q) ?_
 refine Qq 0 rfl rfl (QR.load rfl rfl g23 (Bs.sub _)) ?_
 refine Qq 1 rfl rfl (QR.load rfl rfl g23 (Bs.sub _)) ?_
 refine Qp 2 rfl rfl (QP.eql_agg eq23 rfl rfl rfl) <| J.caseD (fun c12 => ?_) (fun c12 => ?_)
 ·refine Sg 3 rfl rfl rfl <| Sq.nil <| hk5 _ _ <| Run.cond_t rfl <| Run.seq fun k6 hk6 => Run.regionM (M := [0, 0, 3]) (q := 1) (r := 0) mixedT Kr ?_
  refine Dp 0 rfl rfl (QP.sliceArrLo rfl rfl rfl Try.underlying23 z5 (by decide) (by decide)) ?_
  rw [off8]
  refine De 1 <| Om [] rfl rfl ((QP.assign rfl rfl).eff) ?_
  rintro _ _ ⟨rfl, rfl⟩
  refine ⟨fun _ h => (by cases h), ?_⟩
  refine De 2 <| Om [] rfl rfl ((QP.assign rfl rfl).eff) ?_
  rintro _ _ ⟨rfl, rfl⟩
  refine ⟨fun _ h => (by cases h), ?_⟩
  refine Dn <| hk6 _ _ <| Run.ret ?_
  have hA : adF a = (3, (a.l.drop 8).take 8) := by unfold adF; rw [if_pos c12]
  rw [hA]
  refine J.close (A := slA 23 1 bytE (.slice (some ⟨b1, 0 + 8, none⟩) 8 (16 - 8)) ((a.l.drop 8).take 8)) (m := [blk b1 (Bs.enc a) 23]) Tk1 (fun _ q => slA_arr (x := a) (Bs.sub a) (by omega) q) ?_
  exact J.ends (res_tmp2 rfl rfl rfl) Tk1 ⟨_, rfl, rfl⟩
 ·refine Sg 3 rfl rfl rfl <| Sq.nil <| hk5 _ _ <| Run.cond_f rfl <| Run.seq fun k7 hk7 => Run.region ?_
  show Sq _ _ _ [0, 1, 2, 3] _ _ _ _
  refine Qq 0 rfl rfl (QR.load rfl rfl g23 (Bs.sub _)) ?_
  refine Ef 1 rfl rfl (EF.call rfl ce55 rfl Takes.nil (fun F' hle hr => family_spec F' a)) ?_
  rintro _ _ ⟨_, ⟨rfl, rfl⟩, rfl⟩
  refine J.app ?_
  refine Qp 2 rfl rfl (QP.eql rfl rfl rfl) <| J.caseD (fun c17 => ?_) (fun c17 => ?_)
  ·refine Sg 3 rfl rfl rfl <| Sq.nil <| hk7 _ _ <| Run.cond_t rfl <| Run.seq fun k8 hk8 => Run.regionM (M := [0, 0, 3]) (q := 1) (r := 0) mixedT Kr ?_
   refine Dp 0 rfl rfl (QP.sliceArrLo rfl rfl rfl Try.underlying23 z5 (by decide) (by decide)) ?_
   rw [off12]
   refine De 1 <| Om [] rfl rfl ((QP.assign rfl rfl).eff) ?_
   rintro _ _ ⟨rfl, rfl⟩
   refine ⟨fun _ h => (by cases h), ?_⟩
   refine De 2 <| Om [] rfl rfl ((QP.assign rfl rfl).eff) ?_
   rintro _ _ ⟨rfl, rfl⟩
   refine ⟨fun _ h => (by cases h), ?_⟩
   refine Dn <| hk8 _ _ <| Run.ret ?_
   have hA : adF a = (1, (a.l.drop 12).take 4) := by unfold adF; rw [if_neg c12, if_pos c17]
   rw [hA]
   refine J.close (A := slA 23 1 bytE (.slice (some ⟨b1, 0 + 12, none⟩) 4 (16 - 12)) ((a.l.drop 12).take 4)) (m := [blk b1 (Bs.enc a) 23]) Tk1 (fun _ q => slA_arr (x := a) (Bs.sub a) (by omega) q) ?_
   exact J.ends (res_tmp2 rfl rfl rfl) Tk1 ⟨_, rfl, rfl⟩
  ·refine Sg 3 rfl rfl rfl <| Sq.nil <| hk7 _ _ <| Run.cond_f rfl <| Run.skip <| hk4 _ _ <| Run.seq fun k9 hk9 => Run.regionM (M := [0, 0, 3]) (q := 1) (r := 0) mixedT Kr ?_
   refine Dp 0 rfl rfl (QP.sliceArr rfl rfl Try.underlying23 z5) <| De 1 <| Om [] rfl rfl ((QP.assign rfl rfl).eff) ?_
   rintro _ _ ⟨rfl, rfl⟩
   refine ⟨fun _ h => (by cases h), ?_⟩
   refine De 2 <| Om [] rfl rfl ((QP.assign rfl rfl).eff) ?_
   rintro _ _ ⟨rfl, rfl⟩
   refine ⟨fun _ h => (by cases h), ?_⟩
   refine Dn <| hk9 _ _ <| Run.ret ?_
   have hA : adF a = (2, (a.l.drop 0).take 16) := by unfold adF; rw [if_neg c12, if_neg c17]
   rw [hA]
   refine J.close (A := slA 23 1 bytE (.slice (some ⟨b1, 0 + 0, none⟩) 16 (16 - 0)) ((a.l.drop 0).take 16)) (m := [blk b1 (Bs.enc a) 23]) Tk1 (fun _ q => slA_arr (x := a) (Bs.sub a) (by omega) q) ?_
   exact J.ends (res_tmp2 rfl rfl rfl) Tk1 ⟨_, rfl, rfl⟩

theorem ppref_spec (F : Fr) {p : Prefix} (hp : checkB p = true)  : Spec Try.prog 95 #[.agg (Prefix.enc p).toArray] [] F (fun v S => ∃ sv, v = .tuple #[.int .u8 ((pxF p).1.toNat : Int), .int .u8 ((pxF p).2.1.toNat : Int), sv] ∧ S = [slA 41 1 bytE sv (pxF p).2.2]) := by
 have hv := checkB_len hp
 refine Spec.intro (N := 31) (args := [.agg (Prefix.enc p).toArray]) Try.func95 rfl rfl (by simp) ?_
 refine Run.seq fun k1 hk1 => Run.region ?_
 show Sq _ _ _ [0, 1, 2, 3] _ _ _ _
 refine Ef 0 rfl rfl (EF.boxA rfl rfl) ?_
 rintro _ _ ⟨b1, rfl, rfl⟩
 refine Sg 1 rfl rfl rfl <| Sg 2 rfl rfl rfl <| Sg 3 rfl rfl rfl <| Sq.nil <| hk1 _ _ <| Run.seq fun k2 hk2 => Run.seq fun k3 hk3 => Run.region ?_
 show Sq _ _ _ [0, 1, 2] _ _ _ _
 refine Qq 0 rfl rfl (QR.load rfl rfl g41 (Prefix.enc_sub _)) ?_
 refine Ef 1 rfl rfl (EF.call rfl ce56 rfl Takes.nil (fun F' hle hr => pfamily_spec F' p)) ?_
 rintro _ _ ⟨_, ⟨rfl, rfl⟩, rfl⟩
 refine J.app ?_
 refine Qp 2 rfl rfl (QP.eql rfl rfl rfl) <| J.caseD (fun c8 => ?_) (fun c8 => ?_)
 ·refine Sq.nil <| hk3 _ _ <| Run.cond_t rfl <| Run.seq fun k4 hk4 => Run.regionD (M := [0, 1, 0, 4, 15, 31]) (q := 27) (r := 2) Kr ?_
  have h96 := pfam4 c8
  refine Dp 0 rfl rfl (QP.fieldAddr rfl rfl f41_1) <| Dr 1 rfl rfl (QR.load1 rfl rfl g3 (Prefix.sub_len _)) ?_
  refine De 2 <| Om [1] rfl rfl (EF.call rfl ce99 rfl Takes.nil (fun F' hle hr => any4_spec F')) ?_
  rintro _ _ ⟨_, ⟨rfl, rfl⟩, rfl⟩
  refine ⟨?_, ?_⟩
  ·rw [List.forall_mem_cons]
   refine ⟨?_, fun _ h => (by cases h)⟩
   ·refine Look.app ?_
    exact Look.mk rfl rfl rfl (QR.load1 rfl rfl g3 (Prefix.sub_len _))
  refine ?_
  refine J.app ?_
  refine Dp 3 rfl rfl (QP.field1 rfl rfl Try.underlying41 rfl rfl g3 (Prefix.sub_len any4)) ?_
  rw [show any4.len.v = .int .i64 96 from rfl]
  refine Dp 4 rfl rfl (QP.sub64 rfl rfl rfl Og Og) <| De 5 <| Om [] rfl rfl ((QP.assign rfl rfl).eff) ?_
  rintro _ _ ⟨rfl, rfl⟩
  refine ⟨fun _ h => (by cases h), ?_⟩
  refine Dn <| hk4 _ _ <| Run.seq fun k5 hk5 => Run.regionM (M := [0, 1, 0, 0, 8, 24, 56, 124, 0, 259, 1023]) (q := 255) (r := 0) mixedT Kr ?_
  refine Dp 0 rfl rfl (QP.move rfl rfl) <| Dp 1 rfl rfl (QP.conv rfl rfl Try.underlying3 Try.underlying5) ?_
  rw [wrap_u8n (n := p.len.val - 96) (by omega)]
  refine Dp 2 rfl rfl (QP.fieldAddr rfl rfl f41_0) <| Dp 3 rfl rfl (QP.move rfl rfl) <| Dp 4 rfl rfl (QP.add64 rfl rfl rfl Og Og) <| Dp 5 rfl rfl (QP.quo rfl rfl rfl (by decide)) ?_
  rw [quo8p (by omega) (by omega)]
  refine Dp 6 rfl rfl (QP.add64 rfl rfl rfl Og Og) <| Dp 7 rfl rfl (QP.sliceArrLoHi rfl rfl rfl rfl Try.underlying23 z5 (by decide) (by omega) (by omega)) ?_
  rw [show slOff (some ⟨b1, 0, none⟩) 16 (Int.toNat 12) 1 = some ⟨b1, 0 + 12, none⟩ from rfl, show (12 + (p.len.val - 96 + 7) / 8).toNat - Int.toNat 12 = ((p.len.val - 96 + 7) / 8).toNat by omega, show 16 - Int.toNat 12 = 16 - 12 from rfl]
  refine De 8 <| Om [] rfl rfl ((QP.assign rfl rfl).eff) ?_
  rintro _ _ ⟨rfl, rfl⟩
  refine ⟨fun _ h => (by cases h), ?_⟩
  refine De 9 <| Om [] rfl rfl ((QP.assign rfl rfl).eff) ?_
  rintro _ _ ⟨rfl, rfl⟩
  refine ⟨fun _ h => (by cases h), ?_⟩
  refine De 10 <| Om [] rfl rfl ((QP.assign rfl rfl).eff) ?_
  rintro _ _ ⟨rfl, rfl⟩
  refine ⟨fun _ h => (by cases h), ?_⟩
  refine Dn <| hk5 _ _ <| Run.ret ?_
  have hA : pxF p = (1, UInt8.ofNat (p.len.val - 96).toNat, (p.a.l.drop 12).take ((p.len.val - 96 + 7) / 8).toNat) := by unfold pxF; rw [if_pos c8]
  rw [hA]
  refine J.close (A := slA 41 1 bytE (.slice (some ⟨b1, 0 + 12, none⟩) ((p.len.val - 96 + 7) / 8).toNat (16 - 12)) ((p.a.l.drop 12).take ((p.len.val - 96 + 7) / 8).toNat)) (m := [blk b1 (Prefix.enc p) 41]) Tk1 (fun _ q => slA_arr (x := p.a) (Prefix.sub_a p) (by omega) q) ?_
  exact J.ends (res_tmp3 rfl rfl rfl rfl) Tk1 ⟨_, rfl, rfl⟩
 ·refine Sq.nil <| hk3 _ _ <| Run.cond_f rfl <| Run.skip <| hk2 _ _ <| Run.seq fun k6 hk6 => Run.regionM (M := [0, 1, 3, 0, 0, 16, 48, 112, 248, 0, 519, 2047]) (q := 511) (r := 34) mixedT Kr ?_
  refine Dp 0 rfl rfl (QP.fieldAddr rfl rfl f41_1) <| Dr 1 rfl rfl (QR.load1 rfl rfl g3 (Prefix.sub_len _)) ?_
  refine Dp 2 rfl rfl (QP.conv rfl rfl Try.underlying3 Try.underlying5) ?_
  rw [wrap_u8n (n := p.len.val) (by omega)]
  refine Dp 3 rfl rfl (QP.fieldAddr rfl rfl f41_0) <| Dp 4 rfl rfl (QP.fieldAddr rfl rfl f41_1) <| Dr 5 rfl rfl (QR.load1 rfl rfl g3 (Prefix.sub_len _)) ?_
  refine Dp 6 rfl rfl (QP.add64 rfl rfl rfl Og Og) <| Dp 7 rfl rfl (QP.quo rfl rfl rfl (by decide)) ?_
  rw [quo8p (by omega) (by omega)]
  refine Dp 8 rfl rfl (QP.sliceArrHi rfl rfl rfl Try.underlying23 z5 (by omega) (by omega) (by decide)) ?_
  rw [show (((p.len.val + 7) / 8 : Int)).toNat = ((p.len.val + 7) / 8).toNat from rfl]
  refine De 9 <| Om [5, 1] rfl rfl ((QP.assign rfl rfl).eff) ?_
  rintro _ _ ⟨rfl, rfl⟩
  refine ⟨?_, ?_⟩
  ·rw [List.forall_mem_cons, List.forall_mem_cons]
   refine ⟨?_, ?_, fun _ h => (by cases h)⟩
   ·exact Look.mk rfl rfl rfl (QR.load1 rfl rfl g3 (Prefix.sub_len _))
   ·exact Look.mk rfl rfl rfl (QR.load1 rfl rfl g3 (Prefix.sub_len _))
  refine ?_
  refine De 10 <| Om [5] rfl rfl ((QP.assign rfl rfl).eff) ?_
  rintro _ _ ⟨rfl, rfl⟩
  refine ⟨?_, ?_⟩
  ·rw [List.forall_mem_cons]
   refine ⟨?_, fun _ h => (by cases h)⟩
   ·exact Look.mk rfl rfl rfl (QR.load1 rfl rfl g3 (Prefix.sub_len _))
  refine ?_
  refine De 11 <| Om [] rfl rfl ((QP.assign rfl rfl).eff) ?_
  rintro _ _ ⟨rfl, rfl⟩
  refine ⟨fun _ h => (by cases h), ?_⟩
  refine Dn <| hk6 _ _ <| Run.ret ?_
  have hA : pxF p = (2, UInt8.ofNat p.len.val.toNat, (p.a.l.drop 0).take ((p.len.val + 7) / 8).toNat) := by unfold pxF; rw [if_neg c8]
  rw [hA]
  refine J.close (A := slA 41 1 bytE (.slice (some ⟨b1, 0 + 0, none⟩) ((p.len.val + 7) / 8).toNat (16 - 0)) ((p.a.l.drop 0).take ((p.len.val + 7) / 8).toNat)) (m := [blk b1 (Prefix.enc p) 41]) Tk1 (fun _ q => slA_arr (x := p.a) (Prefix.sub_a p) (by omega) q) ?_
  exact J.ends (res_tmp3 rfl rfl rfl rfl) Tk1 ⟨_, rfl, rfl⟩

theorem specific_spec (F : Fr) (p : Pair) : Spec Try.prog 96 #[.agg (Pair.enc p).toArray] [] F (fun v S => v = .bool (specB p) ∧ S = []) := by
 refine Spec.intro (N := 10) (args := [.agg (Pair.enc p).toArray]) Try.func96 rfl rfl (by simp) ?_
 refine Run.seq fun k1 hk1 => Run.region ?_
 show Sq _ _ _ [0, 1] _ _ _ _
 refine Ef 0 rfl rfl (EF.boxA rfl rfl) ?_
 rintro _ _ ⟨b1, rfl, rfl⟩
 refine Sg 1 rfl rfl rfl <| Sq.nil <| hk1 _ _ <| Run.seq fun k2 hk2 => Run.regionD (M := [0, 1, 0, 4, 12, 28, 63, 127]) (q := 79) (r := 10) Kr ?_
 refine Dp 0 rfl rfl (QP.fieldAddr rfl rfl f43_1) <| Dr 1 rfl rfl (QR.load rfl rfl g41 (Pair.sub_src _)) ?_
 refine Dp 2 rfl rfl (QP.fieldAddr rfl rfl f43_1) <| Dr 3 rfl rfl (QR.load rfl rfl g41 (Pair.sub_src _)) ?_
 refine De 4 <| Om [1] rfl rfl (EF.call rfl ce56 rfl Takes.nil (fun F' hle hr => pfamily_spec F' p.src)) ?_
 rintro _ _ ⟨_, ⟨rfl, rfl⟩, rfl⟩
 refine ⟨?_, ?_⟩
 ·rw [List.forall_mem_cons]
  refine ⟨?_, fun _ h => (by cases h)⟩
  ·refine Look.app ?_
   exact Look.mk rfl rfl rfl (QR.load rfl rfl g41 (Pair.sub_src _))
 refine ?_
 refine J.app ?_
 refine De 5 <| Om [1] rfl rfl (EF.call rfl ce99 rfl Takes.nil (fun F' hle hr => any_spec F' (pfamilyB p.src))) ?_
 rintro _ _ ⟨_, ⟨rfl, rfl⟩, rfl⟩
 refine ⟨?_, ?_⟩
 ·rw [List.forall_mem_cons]
  refine ⟨?_, fun _ h => (by cases h)⟩
  ·refine Look.app ?_
   exact Look.mk rfl rfl rfl (QR.load rfl rfl g41 (Pair.sub_src _))
 refine ?_
 refine J.app ?_
 refine Dp 6 rfl rfl (QP.neq_agg eq41 rfl rfl rfl) <| De 7 <| Om [] rfl rfl ((QP.assign rfl rfl).eff) ?_
 rintro _ _ ⟨rfl, rfl⟩
 refine ⟨fun _ h => (by cases h), ?_⟩
 refine Dn <| hk2 _ _ <| Run.ret ?_
 exact J.ends (res_tmp rfl rfl) Takes.nil ⟨rfl, rfl⟩

theorem place_spec (F : Fr) (a : Bs 16) : Spec Try.prog 61 #[.agg (Bs.enc a).toArray] [] F (fun v S => v = .int .i64 (placeN a : Nat) ∧ S = []) := by
 refine Spec.intro (N := 6) (args := [.agg (Bs.enc a).toArray]) Try.func61 rfl rfl (by simp) ?_
 refine Run.seq fun k1 hk1 => Run.region ?_
 show Sq _ _ _ [0, 1] _ _ _ _
 refine Ef 0 rfl rfl (EF.boxA rfl rfl) ?_
 rintro _ _ ⟨b1, rfl, rfl⟩
 refine Sg 1 rfl rfl rfl <| Sq.nil <| hk1 _ _ <| Run.seq fun k2 hk2 => Run.seq fun k3 hk3 => Run.region ?_
 show Sq _ _ _ [0, 1, 2] _ _ _ _
 refine Qq 0 rfl rfl (QR.load rfl rfl g23 (Bs.sub _)) ?_
 refine Ef 1 rfl rfl (EF.call rfl ce55 rfl Takes.nil (fun F' hle hr => family_spec F' a)) ?_
 rintro _ _ ⟨_, ⟨rfl, rfl⟩, rfl⟩
 refine J.app ?_
 refine Qp 2 rfl rfl (QP.eql rfl rfl rfl) <| J.caseD (fun c5 => ?_) (fun c5 => ?_)
 ·refine Sq.nil <| hk3 _ _ <| Run.cond_t rfl <| Run.seq fun k4 hk4 => Run.region ?_
  show Sq _ _ _ [0] _ _ _ _
  refine Sg 0 rfl rfl rfl <| Sq.nil <| hk4 _ _ <| Run.ret ?_
  exact J.ends (res_tmp rfl rfl) Takes.nil ⟨by unfold placeN; rw [if_pos c5]; rfl, rfl⟩
 ·refine Sq.nil <| hk3 _ _ <| Run.cond_f rfl <| Run.skip <| hk2 _ _ <| Run.seq fun k5 hk5 => Run.region ?_
  show Sq _ _ _ [0] _ _ _ _
  refine Sg 0 rfl rfl rfl <| Sq.nil <| hk5 _ _ <| Run.ret ?_
  exact J.ends (res_tmp rfl rfl) Takes.nil ⟨by unfold placeN; rw [if_neg c5]; rfl, rfl⟩
end Slb
