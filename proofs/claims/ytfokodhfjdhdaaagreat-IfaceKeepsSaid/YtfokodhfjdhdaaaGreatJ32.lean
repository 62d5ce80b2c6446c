/- J32: a part of the proof that a law of this package holds for every input; no condition. -/
import Derived.Test.YtfokodhfjdhdaaaGreatM2
import Derived.Test.YtfokodhfjdhdaaaGreatJ31
namespace Slb
open Go Go.Proofs
set_option maxRecDepth 20000
theorem slA_arr {b n i k off : Nat} {x : Bs n} {l : List Value} {ty : TypeId} (hs : SubL l off n x.enc) (h : i + k ≤ n) {p : PH} (hp : stars [blk b l ty] p) : slA ty 1 bytE (.slice (some ⟨b, off + i, none⟩) k (n - i)) ((x.l.drop i).take k) p := by
 obtain ⟨pre, post, rfl, h1, h2⟩ := hs
 have hx := x.h
 have hlen : ((x.l.drop i).take k).length = k := by rw [List.length_take, List.length_drop]; omega
 have hp2 : blk b (pre ++ x.enc ++ post) ty p := stars_one.1 hp
 refine .inr ⟨b, off + i, n - i, pre ++ bytesV (x.l.take i), bytesV ((x.l.drop i).drop k), post, by rw [hlen], ?_, by rw [List.length_append, bytesV_length, List.length_take, h1]; omega, by rw [hlen]; omega, by rw [hlen, bytesV_length, List.length_drop, List.length_drop]; omega⟩
 rw [show p = _ from hp2, flat_byt]
 congr 2
 unfold Bs.enc bytesV
 simp only [List.append_assoc]
 congr 2
 have e : x.l = x.l.take i ++ ((x.l.drop i).take k ++ (x.l.drop i).drop k) := by rw [List.take_append_drop, List.take_append_drop]
 conv => lhs; rw [e]
 simp only [List.map_append, List.append_assoc]
def locB (a : Bs 16) : Bs 16 := llB.patch 8 ((a.l.drop 8).take 8)
/-- An address's kind and bytes. -/
def adF (a : Bs 16) : UInt8 × List UInt8 := if a = locB a then (3, (a.l.drop 8).take 8) else if familyB a = 4 then (1, (a.l.drop 12).take 4) else (2, (a.l.drop 0).take 16)
/-- A prefix's kind, length and bytes. -/
def pxF (p : Prefix) : UInt8 × UInt8 × List UInt8 := if pfamilyB p = 4 then (1, UInt8.ofNat (p.len.val - 96).toNat, (p.a.l.drop 12).take ((p.len.val - 96 + 7) / 8).toNat) else (2, UInt8.ofNat p.len.val.toNat, (p.a.l.drop 0).take ((p.len.val + 7) / 8).toNat)
theorem wrap_u8n {n : Int} (h : 0 ≤ n) : IntKind.u8.wrap n = ((UInt8.ofNat n.toNat).toNat : Int) := by
 obtain ⟨k, rfl⟩ := Int.eq_ofNat_of_zero_le h
 exact wrap8_nat k
theorem arr_arg {F : Fr} {b off n : Nat} {l : List Value} {ty : TypeId} {fz : Nat × Nat} {x : Bs n} (h : F.h b = some (.cells l.toArray ty fz)) (hs : SubL l off n x.enc) : ArgSl F (some ⟨b, off, none⟩) 1 bytE x.l := fun _ => by
 refine ⟨b, off, rfl, l, ty, fz, h, ?_⟩
 rw [x.h, Nat.mul_one, flat_byt]
 exact hs
theorem pfam4 {p : Prefix} (h : pfamilyB p = 4) : 96 ≤ p.len.val := by
 unfold pfamilyB at h
 split at h
 · cases h
 · omega
def specB (p : Pair) : Bool := decide (p.src ≠ anyB (pfamilyB p.src))
def placeN (a : Bs 16) : Nat := if familyB a = 4 then 1 else 0
theorem off8 {b : Nat} : slOff (some ⟨b, 0, none⟩) 16 (Int.toNat 8) 1 = some ⟨b, 0 + 8, none⟩ := rfl
theorem off12 {b : Nat} : slOff (some ⟨b, 0, none⟩) 16 (Int.toNat 12) 1 = some ⟨b, 0 + 12, none⟩ := rfl

theorem paddr_spec (F : Fr) (a : Bs 16) : Spec Tryz.prog 105 #[.agg (Bs.enc a).toArray] [] F (fun v S => ∃ sv, v = .tuple #[.int .u8 ((adF a).1.toNat : Int), sv] ∧ S = [slA 32 1 bytE sv (adF a).2]) := by
 refine Spec.intro (N := 20) (args := [.agg (Bs.enc a).toArray]) Tryz.func105 rfl rfl (by simp) ?_
 refine Zs fun _ hk1 => Ef 0 E2 (EF.boxA rfl rfl) ?_
 rintro _ _ ⟨b1, rfl, rfl⟩
 refine Sg 1 E3 <| Sg 2 E3 <| Zl hk1 <| Zs fun _ hk2 => Qp 0 E2 (QP.const (.agg (Bs.enc llB).toArray) (fun _ _ => by kernel_rfl)) <| Ef 1 E2 (EF.allocA (l := (Bs.zero 16).enc) rfl zero32) ?_
 rintro _ _ ⟨b4, rfl, rfl⟩
 refine Ac 2 rfl (EF.storeA rfl rfl rfl z32 (SetL.all (Bs.len _) (Bs.len _)) (Bs.cell _)) ?_
 rintro _ _ rfl
 refine Zl hk2 <| Run.seq fun _ hk3 => Run.regionD (M := [0, 0, 3]) (q := 3) (r := 0) Kr ?_
 refine Dp 0 E2 (QP.sliceArrLo rfl rfl rfl Tryz.underlying32 z5 (by decide) (by decide)) <| Dp 1 E2 (QP.sliceArrLo rfl rfl rfl Tryz.underlying32 z5 (by decide) (by decide)) <| De 2 <| Om [] rfl rfl (EF.copySl (b := b4) (off := 0) (n := 16) (lo := 8) (k := 8) (ys := (a.l.drop 8).take 8) rfl rfl rfl rfl Tryz.underlying75 z5 (RowsAt.arr (b := b1) (x := a) Rc (by omega)) (fun h => by omega) (Bs.setPatch llB ((a.l.drop 8).take 8) (by omega))) ?_
 rintro _ _ ⟨rfl, rfl⟩
 refine N0 <| Dn <| hk3 _ _ <| Run.seq fun _ hk4 => Run.block <| Zs fun _ hk5 => J.close (A := blk b4 (Bs.enc (locB a)) 32) (m := [blk b4 (Bs.enc (llB.patch 8 ((a.l.drop 8).take 8))) 32]) Tk1 (fun _ q => stars_one.1 q) ?_
 refine Qq 0 E2 (Z0 E2 g32 (Bs.sub _)) ?_
 refine Qq 1 E2 (Z0 E2 g32 (Bs.sub _)) ?_
 refine Qp 2 E2 (QP.eql_agg eq32 rfl rfl rfl) <| J.caseD (fun c12 => ?_) (fun c12 => ?_)
 ·refine Sg 3 E3 <| Zl hk5 <| Zt <| Run.seq fun _ hk6 => Run.regionM (M := [0, 0, 3]) (q := 1) (r := 0) mixedT Kr ?_
  refine Dp 0 E2 (QP.sliceArrLo rfl rfl rfl Tryz.underlying32 z5 (by decide) (by decide)) ?_
  rw [off8]
  refine De 1 <| Om [] rfl rfl ((Zg E2).eff) ?_
  rintro _ _ ⟨rfl, rfl⟩
  refine N0 <| De 2 <| Om [] rfl rfl ((Zg E2).eff) ?_
  rintro _ _ ⟨rfl, rfl⟩
  refine N0 <| Dn <| hk6 _ _ <| Run.ret ?_
  have hA : adF a = (3, (a.l.drop 8).take 8) := by unfold adF; rw [if_pos c12]
  rw [hA]
  refine J.close (A := slA 32 1 bytE (.slice (some ⟨b1, 0 + 8, none⟩) 8 (16 - 8)) ((a.l.drop 8).take 8)) (m := [blk b1 (Bs.enc a) 32]) Tk1 (fun _ q => slA_arr (x := a) (Bs.sub a) (by omega) q) ?_
  exact J.ends (res_tmp2 rfl rfl rfl) Tk1 ⟨_, rfl, rfl⟩
 ·refine Sg 3 E3 <| Zl hk5 <| Zf <| Zs fun _ hk7 => Qq 0 E2 (Z0 E2 g32 (Bs.sub _)) ?_
  refine Ef 1 E2 (Zc E2 ce49 TN (fun F' hle hr => family_spec F' a)) ?_
  rintro _ _ ⟨_, ⟨rfl, rfl⟩, rfl⟩
  refine J.app <| Qp 2 E2 (Ze E3) <| J.caseD (fun c17 => ?_) (fun c17 => ?_)
  ·refine Sg 3 E3 <| Zl hk7 <| Zt <| Run.seq fun _ hk8 => Run.regionM (M := [0, 0, 3]) (q := 1) (r := 0) mixedT Kr ?_
   refine Dp 0 E2 (QP.sliceArrLo rfl rfl rfl Tryz.underlying32 z5 (by decide) (by decide)) ?_
   rw [off12]
   refine De 1 <| Om [] rfl rfl ((Zg E2).eff) ?_
   rintro _ _ ⟨rfl, rfl⟩
   refine N0 <| De 2 <| Om [] rfl rfl ((Zg E2).eff) ?_
   rintro _ _ ⟨rfl, rfl⟩
   refine N0 <| Dn <| hk8 _ _ <| Run.ret ?_
   have hA : adF a = (1, (a.l.drop 12).take 4) := by unfold adF; rw [if_neg c12, if_pos c17]
   rw [hA]
   refine J.close (A := slA 32 1 bytE (.slice (some ⟨b1, 0 + 12, none⟩) 4 (16 - 12)) ((a.l.drop 12).take 4)) (m := [blk b1 (Bs.enc a) 32]) Tk1 (fun _ q => slA_arr (x := a) (Bs.sub a) (by omega) q) ?_
   exact J.ends (res_tmp2 rfl rfl rfl) Tk1 ⟨_, rfl, rfl⟩
  ·refine Sg 3 E3 <| Zl hk7 <| Zf <| Run.skip <| hk4 _ _ <| Run.seq fun _ hk9 => Run.regionM (M := [0, 0, 3]) (q := 1) (r := 0) mixedT Kr ?_
   refine Dp 0 E2 (QP.sliceArr rfl rfl Tryz.underlying32 z5) <| De 1 <| Om [] rfl rfl ((Zg E2).eff) ?_
   rintro _ _ ⟨rfl, rfl⟩
   refine N0 <| De 2 <| Om [] rfl rfl ((Zg E2).eff) ?_
   rintro _ _ ⟨rfl, rfl⟩
   refine N0 <| Dn <| hk9 _ _ <| Run.ret ?_
   have hA : adF a = (2, (a.l.drop 0).take 16) := by unfold adF; rw [if_neg c12, if_neg c17]
   rw [hA]
   refine J.close (A := slA 32 1 bytE (.slice (some ⟨b1, 0 + 0, none⟩) 16 (16 - 0)) ((a.l.drop 0).take 16)) (m := [blk b1 (Bs.enc a) 32]) Tk1 (fun _ q => slA_arr (x := a) (Bs.sub a) (by omega) q) ?_
   exact J.ends (res_tmp2 rfl rfl rfl) Tk1 ⟨_, rfl, rfl⟩

theorem ppref_spec (F : Fr) {p : Prefix} (hp : checkB p = true)  : Spec Tryz.prog 159 #[.agg (Prefix.enc p).toArray] [] F (fun v S => ∃ sv, v = .tuple #[.int .u8 ((pxF p).1.toNat : Int), .int .u8 ((pxF p).2.1.toNat : Int), sv] ∧ S = [slA 44 1 bytE sv (pxF p).2.2]) := by
 have hv := checkB_len hp
 refine Spec.intro (N := 31) (args := [.agg (Prefix.enc p).toArray]) Tryz.func159 rfl rfl (by simp) ?_
 refine Zs fun _ hk1 => Ef 0 E2 (EF.boxA rfl rfl) ?_
 rintro _ _ ⟨b1, rfl, rfl⟩
 refine Sg 1 E3 <| Sg 2 E3 <| Sg 3 E3 <| Zl hk1 <| Run.seq fun _ hk2 => Zs fun _ hk3 => Qq 0 E2 (Z0 E2 g44 (Prefix.enc_sub _)) ?_
 refine Ef 1 E2 (Zc E2 ce91 TN (fun F' hle hr => pfamily_spec F' p)) ?_
 rintro _ _ ⟨_, ⟨rfl, rfl⟩, rfl⟩
 refine J.app <| Qp 2 E2 (Ze E3) <| J.caseD (fun c8 => ?_) (fun c8 => ?_)
 ·refine Zl hk3 <| Zt <| Run.seq fun _ hk4 => Run.regionD (M := [0, 1, 0, 4, 15, 31]) (q := 27) (r := 2) Kr ?_
  have h96 := pfam4 c8
  refine Dp 0 E2 (Za E2 f44_1) <| Dr 1 E2 (Z1 E2 g3 (Prefix.sub_len _)) ?_
  refine De 2 <| Om [1] rfl rfl (Zc E2 ce113 TN (fun F' hle hr => any4_spec F')) ?_
  rintro _ _ ⟨_, ⟨rfl, rfl⟩, rfl⟩
  refine ⟨?_, ?_⟩
  ·rw [FM]
   refine ⟨?_, NO⟩
   ·refine Look.app ?_
    exact Lk E3 (Z1 E2 g3 (Prefix.sub_len _))
  refine ?_
  refine J.app <| Dp 3 E2 (QP.field1 rfl rfl Tryz.underlying44 rfl rfl g3 (Prefix.sub_len any4)) ?_
  rw [show any4.len.v = .int .i64 96 from rfl]
  refine Dp 4 E2 (QP.sub64 rfl rfl rfl Og Og) <| De 5 <| Om [] rfl rfl ((Zg E2).eff) ?_
  rintro _ _ ⟨rfl, rfl⟩
  refine N0 <| Dn <| hk4 _ _ <| Run.seq fun _ hk5 => Run.regionM (M := [0, 1, 0, 0, 8, 24, 56, 124, 0, 259, 1023]) (q := 255) (r := 0) mixedT Kr ?_
  refine Dp 0 E2 (Zm E2) <| Dp 1 E2 (QP.conv rfl rfl Tryz.underlying3 Tryz.underlying5) ?_
  rw [wrap_u8n (n := p.len.val - 96) (by omega)]
  refine Dp 2 E2 (Za E2 f44_0) <| Dp 3 E2 (Zm E2) <| Dp 4 E2 (QP.add64 rfl rfl rfl Og Og) <| Dp 5 E2 (QP.quo rfl rfl rfl (by decide)) ?_
  rw [quo8p (by omega) (by omega)]
  refine Dp 6 E2 (QP.add64 rfl rfl rfl Og Og) <| Dp 7 E2 (QP.sliceArrLoHi rfl rfl rfl rfl Tryz.underlying32 z5 (by decide) (by omega) (by omega)) ?_
  rw [show slOff (some ⟨b1, 0, none⟩) 16 (Int.toNat 12) 1 = some ⟨b1, 0 + 12, none⟩ from rfl, show (12 + (p.len.val - 96 + 7) / 8).toNat - Int.toNat 12 = ((p.len.val - 96 + 7) / 8).toNat by omega, show 16 - Int.toNat 12 = 16 - 12 from rfl]
  refine De 8 <| Om [] rfl rfl ((Zg E2).eff) ?_
  rintro _ _ ⟨rfl, rfl⟩
  refine N0 <| De 9 <| Om [] rfl rfl ((Zg E2).eff) ?_
  rintro _ _ ⟨rfl, rfl⟩
  refine N0 <| De 10 <| Om [] rfl rfl ((Zg E2).eff) ?_
  rintro _ _ ⟨rfl, rfl⟩
  refine N0 <| Dn <| hk5 _ _ <| Run.ret ?_
  have hA : pxF p = (1, UInt8.ofNat (p.len.val - 96).toNat, (p.a.l.drop 12).take ((p.len.val - 96 + 7) / 8).toNat) := by unfold pxF; rw [if_pos c8]
  rw [hA]
  refine J.close (A := slA 44 1 bytE (.slice (some ⟨b1, 0 + 12, none⟩) ((p.len.val - 96 + 7) / 8).toNat (16 - 12)) ((p.a.l.drop 12).take ((p.len.val - 96 + 7) / 8).toNat)) (m := [blk b1 (Prefix.enc p) 44]) Tk1 (fun _ q => slA_arr (x := p.a) (Prefix.sub_a p) (by omega) q) ?_
  exact J.ends (res_tmp3 rfl rfl rfl rfl) Tk1 ⟨_, rfl, rfl⟩
 ·refine Zl hk3 <| Zf <| Run.skip <| hk2 _ _ <| Run.seq fun _ hk6 => Run.regionM (M := [0, 1, 3, 0, 0, 16, 48, 112, 248, 0, 519, 2047]) (q := 511) (r := 34) mixedT Kr ?_
  refine Dp 0 E2 (Za E2 f44_1) <| Dr 1 E2 (Z1 E2 g3 (Prefix.sub_len _)) ?_
  refine Dp 2 E2 (QP.conv rfl rfl Tryz.underlying3 Tryz.underlying5) ?_
  rw [wrap_u8n (n := p.len.val) (by omega)]
  refine Dp 3 E2 (Za E2 f44_0) <| Dp 4 E2 (Za E2 f44_1) <| Dr 5 E2 (Z1 E2 g3 (Prefix.sub_len _)) ?_
  refine Dp 6 E2 (QP.add64 rfl rfl rfl Og Og) <| Dp 7 E2 (QP.quo rfl rfl rfl (by decide)) ?_
  rw [quo8p (by omega) (by omega)]
  refine Dp 8 E2 (QP.sliceArrHi rfl rfl rfl Tryz.underlying32 z5 (by omega) (by omega) (by decide)) ?_
  rw [show (((p.len.val + 7) / 8 : Int)).toNat = ((p.len.val + 7) / 8).toNat from rfl]
  refine De 9 <| Om [5, 1] rfl rfl ((Zg E2).eff) ?_
  rintro _ _ ⟨rfl, rfl⟩
  refine ⟨?_, ?_⟩
  ·rw [FM, FM]
   refine ⟨?_, ?_, NO⟩
   ·exact Lk E3 (Z1 E2 g3 (Prefix.sub_len _))
   ·exact Lk E3 (Z1 E2 g3 (Prefix.sub_len _))
  refine ?_
  refine De 10 <| Om [5] rfl rfl ((Zg E2).eff) ?_
  rintro _ _ ⟨rfl, rfl⟩
  refine ⟨?_, ?_⟩
  ·rw [FM]
   refine ⟨?_, NO⟩
   ·exact Lk E3 (Z1 E2 g3 (Prefix.sub_len _))
  refine ?_
  refine De 11 <| Om [] rfl rfl ((Zg E2).eff) ?_
  rintro _ _ ⟨rfl, rfl⟩
  refine N0 <| Dn <| hk6 _ _ <| Run.ret ?_
  have hA : pxF p = (2, UInt8.ofNat p.len.val.toNat, (p.a.l.drop 0).take ((p.len.val + 7) / 8).toNat) := by unfold pxF; rw [if_neg c8]
  rw [hA]
  refine J.close (A := slA 44 1 bytE (.slice (some ⟨b1, 0 + 0, none⟩) ((p.len.val + 7) / 8).toNat (16 - 0)) ((p.a.l.drop 0).take ((p.len.val + 7) / 8).toNat)) (m := [blk b1 (Prefix.enc p) 44]) Tk1 (fun _ q => slA_arr (x := p.a) (Prefix.sub_a p) (by omega) q) ?_
  exact J.ends (res_tmp3 rfl rfl rfl rfl) Tk1 ⟨_, rfl, rfl⟩

theorem specific_spec (F : Fr) (p : Pair) : Spec Tryz.prog 160 #[.agg (Pair.enc p).toArray] [] F (fun v S => v = .bool (specB p) ∧ S = []) := by
 refine Spec.intro (N := 10) (args := [.agg (Pair.enc p).toArray]) Tryz.func160 rfl rfl (by simp) ?_
 refine Zs fun _ hk1 => Ef 0 E2 (EF.boxA rfl rfl) ?_
 rintro _ _ ⟨b1, rfl, rfl⟩
 refine Sg 1 E3 <| Zl hk1 <| Run.seq fun _ hk2 => Run.regionD (M := [0, 1, 0, 4, 12, 28, 63, 127]) (q := 79) (r := 10) Kr ?_
 refine Dp 0 E2 (Za E2 f46_1) <| Dr 1 E2 (Z0 E2 g44 (Pair.sub_src _)) ?_
 refine Dp 2 E2 (Za E2 f46_1) <| Dr 3 E2 (Z0 E2 g44 (Pair.sub_src _)) ?_
 refine De 4 <| Om [1] rfl rfl (Zc E2 ce91 TN (fun F' hle hr => pfamily_spec F' p.src)) ?_
 rintro _ _ ⟨_, ⟨rfl, rfl⟩, rfl⟩
 refine ⟨?_, ?_⟩
 ·rw [FM]
  refine ⟨?_, NO⟩
  ·refine Look.app ?_
   exact Lk E3 (Z0 E2 g44 (Pair.sub_src _))
 refine ?_
 refine J.app <| De 5 <| Om [1] rfl rfl (Zc E2 ce113 TN (fun F' hle hr => any_spec F' (pfamilyB p.src))) ?_
 rintro _ _ ⟨_, ⟨rfl, rfl⟩, rfl⟩
 refine ⟨?_, ?_⟩
 ·rw [FM]
  refine ⟨?_, NO⟩
  ·refine Look.app ?_
   exact Lk E3 (Z0 E2 g44 (Pair.sub_src _))
 refine ?_
 refine J.app <| Dp 6 E2 (QP.neq_agg eq44 rfl rfl rfl) <| De 7 <| Om [] rfl rfl ((Zg E2).eff) ?_
 rintro _ _ ⟨rfl, rfl⟩
 exact N0 <| Dn <| hk2 _ _ <| Run.ret <| Je E2 ⟨rfl, rfl⟩

theorem place_spec (F : Fr) (a : Bs 16) : Spec Tryz.prog 100 #[.agg (Bs.enc a).toArray] [] F (fun v S => v = .int .i64 (placeN a : Nat) ∧ S = []) := by
 refine Spec.intro (N := 6) (args := [.agg (Bs.enc a).toArray]) Tryz.func100 rfl rfl (by simp) ?_
 refine Zs fun _ hk1 => Ef 0 E2 (EF.boxA rfl rfl) ?_
 rintro _ _ ⟨b1, rfl, rfl⟩
 refine Sg 1 E3 <| Zl hk1 <| Run.seq fun _ hk2 => Zs fun _ hk3 => Qq 0 E2 (Z0 E2 g32 (Bs.sub _)) ?_
 refine Ef 1 E2 (Zc E2 ce49 TN (fun F' hle hr => family_spec F' a)) ?_
 rintro _ _ ⟨_, ⟨rfl, rfl⟩, rfl⟩
 refine J.app <| Qp 2 E2 (Ze E3) <| J.caseD (fun c5 => ?_) (fun c5 => ?_)
 ·exact Zl hk3 <| Zt <| Zs fun _ hk4 => Sg 0 E3 <| Zl hk4 <| Run.ret <| Je E2 ⟨by unfold placeN; rw [if_pos c5]; rfl, rfl⟩
 ·exact Zl hk3 <| Zf <| Run.skip <| hk2 _ _ <| Zs fun _ hk5 => Sg 0 E3 <| Zl hk5 <| Run.ret <| Je E2 ⟨by unfold placeN; rw [if_neg c5]; rfl, rfl⟩
end Slb
