/- J37: a part of the proof that a law of this package holds for every input; no condition. -/
import Derived.Test.YtfokodhfjdhdaaaGreatM2
import Derived.Test.YtfokodhfjdhdaaaGreatJ36
namespace Slb
open Go Go.Proofs
set_option maxRecDepth 20000
/-- The first reason not to take a list of Tlvs. -/
def addErr (src : Bs 16) (mtu : Int) : List TlvX → Int
 | [] => 0
 | x :: xs => if fitsF src mtu (tlvS x) x.l ≠ 0 then fitsF src mtu (tlvS x) x.l else addErr src mtu xs
theorem addErr_drop {src : Bs 16} {mtu : Int} {ts : List TlvX} {i : Nat} {x : TlvX} (h : ts[i]? = some x) (h0 : ¬ fitsF src mtu (tlvS x) x.l ≠ 0) : addErr src mtu (ts.drop i) = addErr src mtu (ts.drop (i + 1)) := by
 obtain ⟨hl, rfl⟩ := List.getElem?_eq_some_iff.1 h
 rw [List.drop_eq_getElem_cons hl, addErr, if_neg h0]
theorem addErr_hit {src : Bs 16} {mtu : Int} {ts : List TlvX} {i : Nat} {x : TlvX} (h : ts[i]? = some x) (h0 : fitsF src mtu (tlvS x) x.l ≠ 0) : addErr src mtu (ts.drop i) = fitsF src mtu (tlvS x) x.l := by
 obtain ⟨hl, rfl⟩ := List.getElem?_eq_some_iff.1 h
 rw [List.drop_eq_getElem_cons hl, addErr, if_pos h0]
theorem addErr_zero {src : Bs 16} {mtu : Int} : ∀ {ts : List TlvX}, addErr src mtu ts = 0 → ∀ x ∈ ts, fitsF src mtu (tlvS x) x.l = 0
 | [], _, _, h => by cases h
 | y :: ys, h, x, hx => by
   rw [addErr] at h
   by_cases h0 : fitsF src mtu (tlvS y) y.l = 0
   · rw [if_neg (by simpa using h0)] at h
     rcases List.mem_cons.1 hx with rfl | hx
     · exact h0
     · exact addErr_zero h x hx
   · rw [if_pos h0] at h; exact absurd h h0
theorem fits_chk {src : Bs 16} {mtu : Int} {t : Tlv} {st : List Int} (h : fitsF src mtu t st = 0) : checkF t = 0 := by
 unfold fitsF at h
 by_cases h0 : checkF t = 0
 · exact h0
 · rw [if_pos h0] at h; exact absurd h h0

theorem len_spec (F : Fr) {b0 : Nat} {src : Bs 16} {mtu : Int} {la : Option Addr} {n lc : Nat} : Spec Tryz.prog 45 #[.pointer (some ⟨b0, 0, none⟩)] [blk b0 (PackBuffer.enc ⟨src, mtu, ⟨la, n, lc⟩⟩) 150] F (fun v S => v = .int .i64 (n : Nat) ∧ S = [blk b0 (PackBuffer.enc ⟨src, mtu, ⟨la, n, lc⟩⟩) 150]) := by
 refine Spec.intro (N := 10) (args := [.pointer (some ⟨b0, 0, none⟩)]) Tryz.func45 rfl rfl (by simp) ?_
 refine Zs fun _ hk1 => Sg 0 E3 <| Zl hk1 <| Run.seq fun _ hk2 => Zs fun _ hk3 => Mv 0 E3 <| Qp 1 E2 (QP.ptr_eq_nil rfl rfl rfl Tryz.underlying104) <| Zl hk3 <| Zf <| Run.skip <| hk2 _ _ <| Zs fun _ hk4 => Mv 0 E3 <| Qp 1 E2 (Zn E2) <| Fa 2 E3 f150_2 <| Qq 3 E2 (QR.load1 (v := .slice la n lc) rfl rfl g33 (PackBuffer.sub_l _)) ?_
 exact Qp 4 E2 (QP.len rfl rfl rfl Tryz.underlying33) <| Sg 5 E3 <| Zl hk4 <| Run.ret <| J.ends (res_tmp rfl rfl) Tk1 ⟨rfl, rfl⟩

set_option maxHeartbeats 2000000 in
theorem addb_spec (F : Fr) {ts : List TlvX} {a : Option Addr} {c : Nat} (ha : ArgSl F a 68 tlvE ts) (hin : ∀ x ∈ ts, TlvIn F x) (hwf : ∀ x ∈ ts, (tlvS x).WF) (hr32 : ∀ x ∈ ts, ∀ n ∈ x.l, 0 ≤ n ∧ n < 4294967296) (hn : ts.length ≤ 1000000) {b0 : Nat} {src : Bs 16} {mtu : Int} {la : Option Addr} {lc : Nat} {ts0 : List TlvX} (hm1 : 0 ≤ mtu) (hm2 : mtu ≤ 1000000) (hn0 : ts0.length ≤ 1000000)  : Spec Tryz.prog 37 #[.pointer (some ⟨b0, 0, none⟩), .slice a ts.length c] [blk b0 (PackBuffer.enc ⟨src, mtu, ⟨la, ts0.length, lc⟩⟩) 150, slA 49 68 tlvE (.slice la ts0.length lc) ts0, rowsT ts0] F (fun v S => ∃ (ts1 : List TlvX) (la1 : Option Addr) (lc1 : Nat), v = .int .i64 (addErr src mtu ts) ∧ ts1.map tlvM = (if addErr src mtu ts = 0 then ts0 ++ ts else ts0).map tlvM ∧ S = [blk b0 (PackBuffer.enc ⟨src, mtu, ⟨la1, ts1.length, lc1⟩⟩) 150, slA 49 68 tlvE (.slice la1 ts1.length lc1) ts1, rowsT ts1]) := by
 refine Spec.intro (N := 54) (args := [.pointer (some ⟨b0, 0, none⟩), .slice a ts.length c]) Tryz.func37 rfl rfl (by simp) ?_
 refine Zs fun _ hk1 => Sg 0 E3 <| Zl hk1 <| Run.seq fun _ hk2 => Zs fun _ hk3 => Mv 0 E3 <| Qp 1 E2 (QP.ptr_eq_nil rfl rfl rfl Tryz.underlying104) <| Zl hk3 <| Zf <| Run.skip <| hk2 _ _ <| Run.seq fun _ hk4 => Zs fun _ hk5 => Mv 0 E3 <| Qp 1 E2 (QP.len rfl rfl rfl Tryz.underlying33) <| Mv 2 E3 <| Zl hk5 <| Run.block <| Run.loop1 (fun (i : Nat) => i ≤ ts.length ∧ addErr src mtu ts = addErr src mtu (ts.drop i)) (fun i => .cons 0 (.pointer (some ⟨b0, 0, none⟩)) (.cons 1 (.slice a ts.length c) (.cons 4 (.int .i64 0) (.cons 12 (.slice a ts.length c) (.cons 13 (.int .i64 ts.length) (.cons 14 (.int .i64 i) (.nil))))))) (fun i => [blk b0 (PackBuffer.enc ⟨src, mtu, ⟨la, ts0.length, lc⟩⟩) 150, slA 49 68 tlvE (.slice la ts0.length lc) ts0, rowsT ts0]) (fun i => ts.length - i) (0) (⟨Nat.zero_le _, rfl⟩) ?_ ?_
 ·exact fun _ j => J.envJ (J.keep Tk3 j) ⟨rfl, rfl, rfl, rfl, rfl, rfl, trivial⟩
 rintro i ⟨hile, hea⟩ kl6 hl6
 refine Zs fun _ hk7 => Qp 0 E2 (Zb E3) <| J.caseD (fun c15 => ?_) (fun c15 => ?_)
 ·refine Zl hk7 <| Run.seq fun _ hk8 => Zt <| Run.skip <| hk8 _ _ <| Run.seq fun _ hk9 => Run.block <| Run.seq fun _ hk10 => Run.region ?_
  obtain ⟨x, hi⟩ : ∃ x, ts[i]? = some x := ⟨_, GE (by omega)⟩
  obtain ⟨q1, o1, rfl, hs1⟩ := ha.get (by omega)
  have hm := List.mem_of_getElem? hi
  refine Qp 0 E2 (QP.indexAddr rfl rfl rfl Tryz.underlying33 z49 Og Og) <| Qq 1 E2 (QR.loadSl (y := x) rfl rfl g49 tlvE_len (hs1 _) hi) ?_
  refine Ef 2 E2 (EF.allocA (l := Tlv.enc Tlv.zero) rfl zero49) ?_
  rintro _ _ ⟨b6, rfl, rfl⟩
  refine Ac 3 rfl (EF.storeA rfl rfl rfl z49 (SetL.all (Tlv.enc_len _) (Tlv.enc_len _)) (Tlv.enc_cell _)) ?_
  rintro _ _ rfl
  refine Zl hk10 <| Run.seq fun _ hk11 => Run.regionD (M := [0, 1, 3, 7, 0, 16, 48, 112, 0, 511, 1023]) (q := 511) (r := 392) Kr ?_
  refine Dp 0 E2 (Zm E2) <| Dp 1 E2 (Zn E2) <| Dp 2 E2 (Za E2 f150_0) <| Dr 3 E2 (Z0 E2 g32 (PackBuffer.sub_src _)) ?_
  refine Dp 4 E2 (Zm E2) <| Dp 5 E2 (Zn E2) <| Dp 6 E2 (Za E2 f150_1) <| Dr 7 E2 (Z1 E2 g3 (PackBuffer.sub_mtu _)) ?_
  refine Dr 8 E2 (Z0 E2 g49 (Tlv.enc_sub _)) ?_
  refine De 9 <| Om [] rfl rfl (Zc E2 ce57 TN (fun F' hle hr => fits_spec F' src hm1 hm2 x (hwf x hm) (TlvIn.mono (hin x hm) hle) (hr32 x hm))) ?_
  rintro _ _ ⟨_, ⟨rfl, rfl⟩, rfl⟩
  refine N0 <| J.app <| De 10 <| Om [] rfl rfl ((Zg E2).eff) ?_
  rintro _ _ ⟨rfl, rfl⟩
  refine N0 <| Dn <| hk11 _ _ <| Zs fun _ hk12 => Mv 0 E3 <| Qp 1 E2 (Zq E3) <| J.caseD (fun c29 => ?_) (fun c29 => ?_)
  ·refine Zl hk12 <| Zt <| Zs fun _ hk13 => Mv 0 E3 <| Sg 1 E3 <| Zl hk13 <| Run.ret ?_
   have hE : addErr src mtu ts = fitsF src mtu (tlvS x) x.l := by rw [hea, addErr_hit hi c29]
   rw [hE]
   exact J.ends (res_tmp rfl rfl) Tk3 ⟨ts0, la, lc, rfl, by rw [if_neg c29], rfl⟩
  ·exact Zl hk12 <| Zf <| Run.skip <| hk9 _ _ <| Run.region <| Qp 0 E2 (QP.add64 rfl rfl rfl Og Og) <| Mv 1 E3 <| Sq.nil <| J.envJ (J.keep Tk3 (hl6 (i + 1) (⟨by omega, by rw [hea, addErr_drop hi c29]⟩) (by omega))) ⟨rfl, rfl, rfl, rfl, rfl, rfl, trivial⟩
 ·refine Zl hk7 <| Run.seq fun _ hk14 => Zf <| Run.exit rfl <| hk4 _ _ <| Run.seq fun _ hk15 => Run.seq fun _ hk16 => Run.region ?_
  have hz0 : addErr src mtu ts = 0 := by rw [hea, List.drop_eq_nil_of_le (by omega)]; rfl
  have hall := addErr_zero hz0
  refine Mv 0 E3 <| Qp 1 E2 (QP.len rfl rfl rfl Tryz.underlying33) <| Mv 2 E3 <| Zl hk16 <| Run.block <| Run.loop4 (fun (j : Nat) (us : List TlvX) (la1 : Option Addr) (lc1 : Nat) => j ≤ ts.length ∧ us.map tlvM = (ts0 ++ ts.take j).map tlvM) (fun j us la1 lc1 => .cons 0 (.pointer (some ⟨b0, 0, none⟩)) (.cons 1 (.slice a ts.length c) (.cons 4 (.int .i64 0) (.cons 32 (.slice a ts.length c) (.cons 33 (.int .i64 ts.length) (.cons 34 (.int .i64 j) (.nil))))))) (fun j us la1 lc1 => [blk b0 (PackBuffer.enc ⟨src, mtu, ⟨la1, us.length, lc1⟩⟩) 150, slA 49 68 tlvE (.slice la1 us.length lc1) us, rowsT us]) (fun j us la1 lc1 => ts.length - j) (0) (ts0) (la) (lc) (⟨Nat.zero_le _, by rw [List.take_zero, List.append_nil]⟩) ?_ ?_
  ·exact fun _ j => J.envJ (J.keep Tk3 j) ⟨rfl, rfl, rfl, rfl, rfl, rfl, trivial⟩
  rintro j us la1 lc1 ⟨hjle, hus⟩ kl17 hl17
  refine Zs fun _ hk18 => Qp 0 E2 (Zb E3) <| J.caseD (fun c35 => ?_) (fun c35 => ?_)
  ·refine Zl hk18 <| Run.seq fun _ hk19 => Zt <| Run.skip <| hk19 _ _ <| Run.seq fun _ hk20 => Run.block <| Run.seq fun _ hk21 => Run.region ?_
   obtain ⟨x, hi⟩ : ∃ x, ts[j]? = some x := ⟨_, GE (by omega)⟩
   obtain ⟨q1, o1, rfl, hs1⟩ := ha.get (by omega)
   have hm := List.mem_of_getElem? hi
   refine Qp 0 E2 (QP.indexAddr rfl rfl rfl Tryz.underlying33 z49 Og Og) <| Qq 1 E2 (QR.loadSl (y := x) rfl rfl g49 tlvE_len (hs1 _) hi) ?_
   refine Ef 2 E2 (EF.allocA (l := Tlv.enc Tlv.zero) rfl zero49) ?_
   rintro _ _ ⟨b9, rfl, rfl⟩
   refine Ac 3 rfl (EF.storeA rfl rfl rfl z49 (SetL.all (Tlv.enc_len _) (Tlv.enc_len _)) (Tlv.enc_cell _)) ?_
   rintro _ _ rfl
   refine Zl hk21 <| Zs fun _ hk22 => Ef 0 E2 (EF.buildSliceS rfl Tryz.underlying47 z101 zero101 rfl (by decide) rfl rfl rfl rfl) ?_
   rintro _ _ ⟨b38, rfl, rfl⟩
   refine J.close (A := slA 101 1 u32E (.slice (some ⟨b38, 0, none⟩) 0 0) []) (m := [blk b38 [] 101]) Tk1 (fun _ q => slA_blk (xs := []) rfl q) ?_
   refine Fa 1 E3 f49_12 <| Qq 2 E2 (QR.load1 (v := .slice x.a x.l.length x.c) rfl rfl g47 (Tlv.sub_stamps _)) ?_
   refine Ef 3 E2 (EF.appendArg (xs := []) (ys := x.l) (enc := u32E) el101 (fun _ => rfl) (fun _ => cell_one rfl) rfl rfl rfl Tryz.underlying47 Tryz.underlying47 rfl rfl Rc (hin x hm) (by have h9 : x.l.length ≤ 2 := (chk_facts (fits_chk (hall x hm))).1; simp; omega)) ?_
   rintro sl41 _ rfl
   rw [List.nil_append]
   refine Sq.slCase (v := sl41) (xs := x.l) Rc (fun a41 c41 hv41 hh41 => ?_)
   subst hv41
   refine Fa 4 E3 f49_12 <| Ac 5 rfl (EF.store rfl rfl rfl z47 (Tlv.set_stamps _ (⟨a41, x.l.length, c41⟩ : Slc)) (cell_one rfl)) ?_
   rintro _ _ rfl
   refine Zl hk22 <| Run.regionD (M := [0, 0, 2, 6, 14, 0, 32, 126, 255, 511, 1023]) (q := 831) (r := 48) Kr ?_
   refine Dp 0 E2 (Zm E2) <| Dp 1 E2 (Zm E2) <| Dp 2 E2 (Zn E2) <| Dp 3 E2 (Za E2 f150_2) <| Dr 4 E2 (QR.load1 (v := .slice la1 us.length lc1) rfl rfl g33 (PackBuffer.sub_l _)) ?_
   refine Dr 5 E2 (Z0 E2 g49 (Tlv.enc_sub _)) ?_
   refine De 6 <| Om [4] rfl rfl (EF.buildSlice1 rfl Tryz.underlying33 z49 zero49 (by simp [Value.cells, Tlv.enc_len]) (by decide) rfl rfl (Tlv.enc_len _) (by decide)) ?_
   rintro _ _ ⟨b49, rfl, rfl⟩
   refine ⟨?_, ?_⟩
   ·rw [FM]
    refine ⟨?_, NO⟩
    ·exact Lk E3 (QR.load1 (v := .slice la1 us.length lc1) rfl rfl g33 (PackBuffer.sub_l _))
   refine ?_
   refine De 7 <| Om [] rfl rfl (EF.append1 (xs := us) (s := (⟨x.t, a41, c41, x.l⟩ : TlvX)) el49 tlvE_len (fun _ => Tlv.enc_cell _) rfl rfl rfl Tryz.underlying33 Tryz.underlying33 rfl rfl Rc Rc (by have := congrArg List.length hus; simp only [List.length_map, List.length_append, List.length_take] at this; omega)) ?_
   rintro sl50 _ rfl
   refine N0 <| Dw.slCase (v := sl50) (xs := (us ++ [(⟨x.t, a41, c41, x.l⟩ : TlvX)])) Rc (fun a50 c50 hv50 hh50 => ?_)
   subst hv50
   refine Dp 8 E2 (Zn E2) <| Dp 9 E2 (Za E2 f150_2) <| De 10 <| Oa [] rfl (EF.store rfl rfl rfl z33 (PackBuffer.set_l _ (⟨a50, (us ++ [(⟨x.t, a41, c41, x.l⟩ : TlvX)]).length, c50⟩ : Slc)) (cell_one rfl)) ?_
   rintro _ _ rfl
   refine N0 <| Dn <| hk20 _ _ <| Run.region <| Qp 0 E2 (QP.add64 rfl rfl rfl Og Og) <| Mv 1 E3 <| Sq.nil <| J.close (A := rowsT (us ++ [(⟨x.t, a41, c41, x.l⟩ : TlvX)])) (m := [rowsT us, stA (⟨x.t, a41, c41, x.l⟩ : TlvX)]) Tk2 (fun _ q => rowsT_snoc q) ?_
   exact J.envJ (J.keep Tk3 (hl17 (j + 1) (us ++ [(⟨x.t, a41, c41, x.l⟩ : TlvX)]) (a50) (c50) (⟨by omega, by rw [List.map_append, hus, take_succ_get hi, ← List.append_assoc, List.map_append (l₂ := [x])]; rfl⟩) (by omega))) ⟨rfl, rfl, rfl, rfl, rfl, rfl, trivial⟩
  ·exact Zl hk18 <| Run.seq fun _ hk23 => Zf <| Run.exit rfl <| hk15 _ _ <| Zs fun _ hk24 => Sg 0 E3 <| Zl hk24 <| Run.ret <| J.ends (res_tmp rfl rfl) Tk3 ⟨us, la1, lc1, by rw [hz0], by rw [if_pos hz0, hus, List.take_of_length_le (by omega)], rfl⟩
end Slb
