/- J5: a part of the proof that a law of this package holds for every input; no condition. -/
import Derived.Test.YtfokodhfjdhdaaaGreatM2
import Derived.Test.YtfokodhfjdhdaaaGreatJ4
namespace Slb
open Go Go.Proofs
set_option maxRecDepth 20000
/-! ### A prefix, told in part -/
def offF (ae : Int) : Nat := if ae = 1 then 12 else 0
def baseA (ae : Int) : Bs 16 := if ae = 1 then any4.a else Bs.zero 16
def knownAE (ae : Int) : Bool := decide (ae = 1) || decide (ae = 2)
def pfxOk (ae plen om : Int) : Bool := knownAE ae && (decide ((offF ae : Int) + (plen + 7) / 8 ≤ 16) && decide (om ≤ (plen + 7) / 8))
def pfxA (ae plen om : Int) (base : Bs 16) (r : Rs) : Bs 16 := ((baseA ae).patch (offF ae) ((base.l.drop (offF ae)).take om.toNat)).patch (offF ae + om.toNat) (rdTake r ((plen + 7) / 8 - om)).1
def pfxL (ae plen : Int) : I64 := ⟨max 0 (min (8 * (offF ae : Int) + plen) 1000), by omega, by omega⟩
def prefF (ae plen om : Int) (base : Bs 16) (r : Rs) (bad : Bool) : Prefix × Rs × Bool :=
 if soundB (bad || !pfxOk ae plen om) r = false then (Prefix.zero, r, bad || !pfxOk ae plen om)
 else (⟨maskedB (pfxA ae plen om base r) (8 * (offF ae : Int) + plen), pfxL ae plen⟩, (rdTake r ((plen + 7) / 8 - om)).2, bad || !pfxOk ae plen om)
theorem off_le (ae : Int) : offF ae = 0 ∨ offF ae = 12 := by unfold offF; split <;> simp
theorem pfxL_val {ae plen : Int} (h0 : 0 ≤ plen) (h1 : plen < 256) : (pfxL ae plen).val = 8 * (offF ae : Int) + plen := by
 have := off_le ae
 unfold pfxL
 simp only
 omega
/-- A part of an array as bytes to copy. -/
theorem RowsAt.arr {S : List HProp} {F : Fr} {b n i k c : Nat} {x : Bs n} {ty : TypeId} (h : blk b x.enc ty ∈ S) (hik : i + k ≤ n) : RowsAt S F (.slice (slOff (some ⟨b, 0, none⟩) n i 1) k c) ((x.l.drop i).take k).length 1 (bytesV ((x.l.drop i).take k)) := by
 have hx := x.h
 have hlen : ((x.l.drop i).take k).length = k := by rw [List.length_take, List.length_drop]; omega
 rw [hlen]
 refine ⟨by rw [bytesV_length, hlen, Nat.mul_one], .inr ?_⟩
 by_cases hn : n = i
 · refine ⟨b, 0, c, by unfold slOff; rw [if_pos hn], fun w s => ⟨x.enc, ty, (0, 0), s.mem h, ?_⟩⟩
   have hk : k = 0 := by omega
   subst hk
   exact ⟨[], x.enc, by simp [bytesV], rfl, by simp [bytesV]⟩
 · refine ⟨b, i, c, by unfold slOff; rw [if_neg hn]; simp [add_lit], fun w s => ⟨x.enc, ty, (0, 0), s.mem h, ?_⟩⟩
   refine ⟨bytesV (x.l.take i), bytesV ((x.l.drop i).drop k), ?_, by rw [bytesV_length, List.length_take]; omega, by rw [bytesV_length, hlen, Nat.mul_one]⟩
   unfold Bs.enc bytesV
   rw [← List.map_append, ← List.map_append, List.append_assoc, List.take_append_drop, List.take_append_drop]
theorem keepN_all {n : Int} {k : Nat} (h : 8 ≤ n - 8 * (k : Int)) : maskB n k = 255 := by
 unfold maskB keepN
 rw [show (min (max (n - 8 * (k : Int)) 0) 8).toNat = 8 by omega]
 decide
theorem maskedT_skip {x : Bs 16} {n : Int} {k : Nat} (hk : k < 16) (h : 8 ≤ n - 8 * (k : Int)) : maskedT x n k = maskedT x n (k + 1) := by
 obtain ⟨c, hc⟩ : ∃ c, x.l[k]? = some c := ⟨_, GE (by rw [x.h]; exact hk)⟩
 rw [← maskedT_succ hc, keepN_all h]
 apply Bs.ext
 show _ = (maskedT x n k).l.set k (c &&& 255)
 have e : c &&& 255 = c := by
   apply UInt8.toNat_inj.1
   rw [UInt8.toNat_and]
   have := c.toNat_lt
   show c.toNat &&& 255 = c.toNat
   rw [show (255 : Nat) = 2 ^ 8 - 1 from rfl, Nat.and_two_pow_sub_one_eq_mod]
   omega
 rw [e]
 have := maskedT_at (n := n) hc
 apply List.ext_getElem?
 intro i
 rw [List.getElem?_set]
 by_cases hi : k = i
 · subst hi
   rw [if_pos rfl, if_pos (List.getElem?_eq_some_iff.1 this).1, this]
 · rw [if_neg hi]
theorem quo8p {n : Int} (h : 0 ≤ n) (h2 : n ≤ 1000) : IntKind.i64.wrap (n.tdiv 8) = n / 8 := by
 rw [Int.tdiv_eq_ediv_of_nonneg h, wrap_i64 (by omega) (by omega)]

set_option maxHeartbeats 2000000 in
theorem prefix_spec (F : Fr) {b rb : Nat} {t : Tlv} {bad : Bool} {r : Rs} (ae plen om : Int) (base : Bs 16) (hpl : 0 ≤ plen ∧ plen < 256) (hom : 0 ≤ om ∧ om < 256)  : Spec Tryz.prog 114 #[fp b, .int .u8 ae, .int .u8 plen, .int .u8 om, .agg (Bs.enc base).toArray] [blk b (PacketPiece.enc ⟨some ⟨rb, 0, none⟩, t, bad⟩) 185, RdA rb r] F (fun v S => v = .agg (Prefix.enc (prefF ae plen om base r bad).1).toArray ∧ S = [blk b (PacketPiece.enc ⟨some ⟨rb, 0, none⟩, t, (prefF ae plen om base r bad).2.2⟩) 185, RdA rb (prefF ae plen om base r bad).2.1]) := by
 refine Spec.intro (N := 98) (args := [fp b, .int .u8 ae, .int .u8 plen, .int .u8 om, .agg (Bs.enc base).toArray]) Tryz.func114 rfl rfl (by simp) ?_
 refine Zs fun _ hk1 => Ef 0 E2 (EF.boxA rfl rfl) ?_
 rintro _ _ ⟨b9, rfl, rfl⟩
 refine Ef 1 E2 (EF.allocA (l := Prefix.enc Prefix.zero) rfl zero44) ?_
 rintro _ _ ⟨b10, rfl, rfl⟩
 refine Zl hk1 <| Zs fun _ hk2 => Sg 0 E3 <| Zl hk2 <| Zs fun _ hk3 => Qp 0 E2 (QP.const (.agg (Bs.enc (⟨[0, 0, 0, 0, 0, 0, 0, 0, 0, 0, 0, 0, 0, 0, 0, 0], rfl⟩ : Bs 16)).toArray) (fun _ _ => by kernel_rfl)) <| Ef 1 E2 (EF.allocA (l := (Bs.zero 16).enc) rfl zero32) ?_
 rintro _ _ ⟨b12, rfl, rfl⟩
 refine Ac 2 rfl (EF.storeA rfl rfl rfl z32 (SetL.all (Bs.len _) (Bs.len _)) (Bs.cell _)) ?_
 rintro _ _ rfl
 refine Zl hk3 <| Run.cut3 (fun (off : Nat) (a0 : Bs 16) (bad1 : Bool) => off = offF ae ∧ a0 = baseA ae ∧ bad1 = (bad || !knownAE ae)) (fun off a0 bad1 => .cons 0 (fp b) (.cons 2 (.int .u8 plen) (.cons 3 (.int .u8 om) (.cons 9 (fp b9) (.cons 10 (fp b10) (.cons 11 (.int .i64 off) (.cons 12 (fp b12) (.nil)))))))) (fun off a0 bad1 => [blk b (PacketPiece.enc ⟨some ⟨rb, 0, none⟩, t, bad1⟩) 185, RdA rb r, blk b9 (Bs.enc base) 32, blk b10 (Prefix.enc Prefix.zero) 44, blk b12 (Bs.enc a0) 32]) ?_ ?_
 ·rintro off a0 bad1 ⟨hoff, ha0, hbad1⟩
  have hol := off_le ae
  rw [← hoff] at hol
  refine Zs fun _ hk5 => Mv 0 E3 <| Qp 1 E2 (QP.conv rfl rfl Tryz.underlying5 Tryz.underlying3) ?_
  rw [wrap_i64 (n := plen) (by omega) (by omega)]
  refine Qp 2 E2 (QP.add64 rfl rfl rfl Og Og) <| Qp 3 E2 (QP.quo rfl rfl rfl (by decide)) ?_
  rw [quo8p (by omega) (by omega)]
  refine Mv 4 E3 <| Qp 5 E2 (QP.conv rfl rfl Tryz.underlying5 Tryz.underlying3) ?_
  rw [wrap_i64 (n := om) (by omega) (by omega)]
  refine Sg 6 E3 <| Sg 7 E3 <| Zl hk5 <| Zs fun _ hk6 => Mv 0 E3 <| Mv 1 E3 <| Mv 2 E3 <| Qp 3 E2 (QP.add64 rfl rfl rfl Og Og) <| Qp 4 E2 (QP.leq rfl rfl rfl) <| J.caseD (fun c39 => ?_) (fun c39 => ?_)
  ·refine Mv 5 E3 <| Ym 6 E4 <| Ym 7 E4 <| Yp 8 E3 (QP.leq rfl rfl rfl) <| Pt 9 E4 <| Ef 10 E2 (Zc E2 ce111 Tk2 (fun F' hle hr => need_spec F' (bad := bad1) (decide (om ≤ (plen + 7) / 8)))) ?_
   rintro _ _ ⟨_, ⟨rfl, rfl⟩, rfl⟩
   refine J.app <| Zl hk6 <| Run.seq fun _ hk7 => Run.seq fun _ hk8 => Run.region ?_
   obtain ⟨bad2, hb2⟩ : ∃ bad2, bad2 = (bad1 || !(decide (om ≤ (plen + 7) / 8))) := ⟨_, rfl⟩
   rw [← hb2]
   have hbad2 : bad2 = (bad || !pfxOk ae plen om) := by rw [hb2, hbad1]; unfold pfxOk; rw [← hoff, decide_eq_true c39]; cases bad <;> cases knownAE ae <;> simp
   refine Mv 0 E3 <| Ef 1 E2 (Zc E2 ce83 Tk2 (fun F' hle hr => sound_spec F' (bad := bad2))) ?_
   rintro _ _ ⟨_, ⟨rfl, rfl⟩, rfl⟩
   refine J.app <| J.caseB (fun c47 => ?_) (fun c47 => ?_)
   ·refine Qp 2 E2 (Zu E2) <| Zl hk8 <| Zf <| Run.skip <| hk7 _ _ <| Run.seq fun _ hk9 => Run.regionD (M := [0, 1, 0, 0, 0, 24, 60, 127]) (q := 127) (r := 0) Kr ?_
    have hsd : soundB bad2 r = true := by simpa using c47
    have hb2f : bad2 = false := by revert hsd; unfold soundB; cases bad2 <;> simp
    have hpk : pfxOk ae plen om = true := by rw [hb2f] at hbad2; revert hbad2; cases bad <;> cases pfxOk ae plen om <;> simp
    unfold pfxOk at hpk
    simp only [Bool.and_eq_true, decide_eq_true_eq] at hpk
    obtain ⟨_, hpk1, hpk2⟩ := hpk
    rw [← hoff] at hpk1
    obtain ⟨k, rfl⟩ : ∃ k : Nat, om = (k : Int) := ⟨om.toNat, by omega⟩
    refine Dp 0 E2 (Zm E2) <| Dp 1 E2 (QP.sliceArrLo rfl rfl rfl Tryz.underlying32 z5 (by omega) (by omega)) <| Dp 2 E2 (Zm E2) <| Dp 3 E2 (Zm E2) <| Dp 4 E2 (Zm E2) <| Dp 5 E2 (QP.add64 rfl rfl rfl Og Og) <| Dp 6 E2 (QP.sliceArrLoHi rfl rfl rfl rfl Tryz.underlying32 z5 (by omega) (by omega) (by omega)) <| De 7 <| Om [] rfl rfl (EF.copySl (b := b12) (off := 0) (n := 16) (lo := off) (k := 16 - off) (ys := (base.l.drop off).take (off + k - off)) rfl rfl rfl rfl Tryz.underlying75 z5 (RowsAt.arr (x := base) Rc (by omega)) (fun h => by omega) (Bs.setPatch a0 _ (by omega))) ?_
    rintro _ _ ⟨rfl, rfl⟩
    refine N0 <| Dn <| hk9 _ _ <| Run.seq fun _ hk10 => Run.regionD (M := [0, 0, 3, 7, 0, 16, 48, 112, 0, 0, 768, 2032, 4095]) (q := 2047) (r := 128) Kr ?_
    rw [Nat.add_sub_cancel_left]
    refine Dp 0 E2 (Zm E2) <| Dp 1 E2 (Zm E2) <| Dp 2 E2 (QP.add64 rfl rfl rfl Og Og) <| Dp 3 E2 (QP.sliceArrLo rfl rfl rfl Tryz.underlying32 z5 (by omega) (by omega)) <| Dp 4 E2 (Zm E2) <| Dp 5 E2 (Zn E2) <| Dp 6 E2 (Za E2 f185_0) <| Dr 7 E2 (Z1 E2 g175 (PacketPiece.sub_reader _)) ?_
    refine Dp 8 E2 (Zm E2) <| Dp 9 E2 (Zm E2) <| Dp 10 E2 (QP.sub64 rfl rfl rfl Og Og) <| De 11 <| Om [] rfl rfl (Zc E2 ce75 Tk1 (fun F' hle hr => bytes_spec F' (r := r) ((plen + 7) / 8 - (k : Int)))) ?_
    rintro v69 _ ⟨_, rfl, rfl⟩
    refine N0 <| J.app ?_
    generalize hB : (rdTake r ((plen + 7) / 8 - (k : Int))).1 = B
    refine Dw.slCase (v := v69) (xs := B) Rc (fun a69 c69 hv69 hh69 => ?_)
    subst hv69
    refine De 12 <| Om [] rfl rfl (EF.copySl (b := b12) (off := 0) (n := 16) (lo := off + k) (k := 16 - (off + k)) (ys := B) rfl rfl rfl rfl Tryz.underlying75 z5 (RowsAt.bytes hh69 Rc) (fun h => by omega) (Bs.setPatch (a0.patch off ((base.l.drop off).take k)) B (by omega))) ?_
    rintro _ _ ⟨rfl, rfl⟩
    refine N0 <| Dn <| hk10 _ _ <| Zs fun _ hk11 => Mv 0 E3 <| Qp 1 E2 (QP.mul rfl rfl rfl) ?_
    rw [wrap_i64 (n := 8 * (off : Int)) (by omega) (by omega)]
    refine Mv 2 E3 <| Qp 3 E2 (QP.conv rfl rfl Tryz.underlying5 Tryz.underlying3) ?_
    rw [wrap_i64 (n := plen) (by omega) (by omega)]
    refine Qp 4 E2 (QP.add64 rfl rfl rfl Og Og) <| Sg 5 E3 <| Zl hk11 <| Run.seq fun _ hk12 => Run.seq fun _ hk13 => Run.region ?_
    rw [show Bs.enc ((a0.patch off ((base.l.drop off).take k)).patch (off + k) B) = Bs.enc (maskedT ((a0.patch off ((base.l.drop off).take k)).patch (off + k) B) (8 * (off : Int) + plen) 0) by rw [maskedT_zero]]
    refine Mv 0 E3 <| Zl hk13 <| Run.block <| Run.loop1 (fun (i : Nat) => i ≤ 16) (fun i => .cons 0 (fp b) (.cons 10 (fp b10) (.cons 12 (fp b12) (.cons 15 (.int .i64 (8 * (off : Int) + plen)) (.cons 76 (.int .i64 i) (.nil)))))) (fun i => [blk b (PacketPiece.enc ⟨some ⟨rb, 0, none⟩, t, bad2⟩) 185, RdA rb (rdTake r ((plen + 7) / 8 - (k : Int))).2, blk b10 (Prefix.enc Prefix.zero) 44, blk b12 (Bs.enc (maskedT ((a0.patch off ((base.l.drop off).take k)).patch (off + k) B) (8 * (off : Int) + plen) i)) 32]) (fun i => 16 - i) (0) (Nat.zero_le _) ?_ ?_
    ·exact fun _ j => J.envJ (J.keep Tk4 j) ⟨rfl, rfl, rfl, rfl, rfl, trivial⟩
    rintro i hi16 kl14 hl14
    refine Zs fun _ hk15 => Qp 0 E2 (Zb E3) <| J.caseD (fun c77 => ?_) (fun c77 => ?_)
    ·refine Zl hk15 <| Run.seq fun _ hk16 => Zt <| Run.skip <| hk16 _ _ <| Run.seq fun _ hk17 => Run.block <| Zs fun _ hk18 => Mv 0 E3 <| Sg 1 E3 <| Zl hk18 <| Zs fun _ hk19 => Mv 0 E3 <| Mv 1 E3 <| Qp 2 E2 (QP.mul rfl rfl rfl) ?_
     rw [wrap_i64 (n := 8 * (i : Int)) (by omega) (by omega)]
     refine Qp 3 E2 (QP.sub64 rfl rfl rfl Og Og) <| Sg 4 E3 <| Zl hk19 <| Zs fun _ hk20 => Mv 0 E3 <| Qp 1 E2 (Zb E3) <| J.caseD (fun c84 => ?_) (fun c84 => ?_)
     ·refine Zl hk20 <| Zt <| Run.regionD (M := [0, 1, 3, 0, 8, 24, 56, 127, 255, 511]) (q := 511) (r := 4) Kr ?_
      obtain ⟨c, hc⟩ : ∃ c, ((a0.patch off ((base.l.drop off).take k)).patch (off + k) B).l[i]? = some c := ⟨_, GE (by rw [Bs.h]; omega)⟩
      refine Dp 0 E2 (Zm E2) <| Dp 1 E2 (QP.indexArr rfl rfl rfl Tryz.underlying32 z5 Og Og) <| Dr 2 E2 (Z1 E2 g5 (Bs.subAt _ (maskedT_at hc) (by simp))) ?_
      refine Dp 3 E2 (Zm E2) <| Dp 4 E2 (QP.max2 rfl rfl rfl) <| Dp 5 E2 (QP.shr16 rfl rfl rfl Og Og) <| Dp 6 E2 (QP.conv rfl rfl Tryz.underlying40 Tryz.underlying5) <| Dp 7 E2 (QP.and8 (a := c) (b := maskB (8 * (off : Int) + plen) i) rfl rfl rfl rfl (maskB_wrap (by split <;> omega))) <| Dp 8 E2 (QP.indexArr rfl rfl rfl Tryz.underlying32 z5 Og Og) <| De 9 <| Oa [] rfl (EF.store rfl rfl rfl z5 (Bs.setAt ((maskedT ((a0.patch off ((base.l.drop off).take k)).patch (off + k) B) (8 * (off : Int) + plen) i)) (i := i) (c := (c &&& maskB (8 * (off : Int) + plen) i)) Og (by simp) rfl) (cell_one rfl)) ?_
      rintro _ _ rfl
      refine N0 <| Dn <| hk17 _ _ <| Run.region <| Qp 0 E2 (QP.add64 rfl rfl rfl Og Og) <| Mv 1 E3 <| Sq.nil ?_
      rw [maskedT_succ hc]
      exact J.envJ (J.keep Tk4 (hl14 (i + 1) (by omega) (by omega))) ⟨rfl, rfl, rfl, rfl, rfl, trivial⟩
     ·refine Zl hk20 <| Zf <| Run.skip <| hk17 _ _ <| Run.region <| Qp 0 E2 (QP.add64 rfl rfl rfl Og Og) <| Mv 1 E3 <| Sq.nil ?_
      rw [maskedT_skip (by omega) (by omega)]
      exact J.envJ (J.keep Tk4 (hl14 (i + 1) (by omega) (by omega))) ⟨rfl, rfl, rfl, rfl, rfl, trivial⟩
    ·refine Zl hk15 <| Run.seq fun _ hk21 => Zf <| Run.exit rfl <| hk12 _ _ <| Run.seq fun _ hk22 => Run.region ?_
     obtain rfl : i = 16 := by omega
     rw [maskedT_all]
     have hL : (⟨(8 * (off : Int) + plen), by omega, by omega⟩ : I64) = pfxL ae plen := Subtype.ext (by rw [pfxL_val hpl.1 hpl.2, ← hoff])
     refine Qq 0 E2 (Z0 E2 g32 (Bs.sub _)) ?_
     refine Mv 1 E3 <| Qp 2 E2 (QP.build (l := Prefix.enc ⟨maskedB ((a0.patch off ((base.l.drop off).take k)).patch (off + k) B) (8 * (off : Int) + plen), (⟨(8 * (off : Int) + plen), by omega, by omega⟩ : I64)⟩) rfl st44 rfl (by exact ⟨congrArg some (Bs.len _).symm, ⟨rfl, trivial⟩⟩) rfl) <| Ac 3 rfl (EF.storeA rfl rfl rfl z44 (SetL.all (Prefix.enc_len _) (Prefix.enc_len _)) (Prefix.enc_cell _)) ?_
     rintro _ _ rfl
     refine Zl hk22 <| Run.ret ?_
     have hp : prefF ae plen (k : Int) base r bad = (⟨maskedB ((a0.patch off ((base.l.drop off).take k)).patch (off + k) B) (8 * (off : Int) + plen), ⟨(8 * (off : Int) + plen), by omega, by omega⟩⟩, (rdTake r ((plen + 7) / 8 - (k : Int))).2, bad || !pfxOk ae plen (k : Int)) := by unfold prefF pfxA; rw [if_neg (by rw [← hbad2, hsd]; simp), ← hoff, ← ha0, ← hL, hB]; rfl
     rw [hp, hbad2]
     exact J.ends (res_cell rfl rfl g44 (Prefix.enc_sub _)) Tk2 ⟨rfl, rfl⟩
   ·refine Qp 2 E2 (Zu E2) <| Zl hk8 <| Zt <| Zs fun _ hk23 => Qp 0 E2 (QP.build (l := Prefix.enc Prefix.zero) rfl st44 rfl (by exact trivial) rfl) <| Ac 1 rfl (EF.storeA rfl rfl rfl z44 (SetL.all (Prefix.enc_len _) (Prefix.enc_len _)) (Prefix.enc_cell _)) ?_
    rintro _ _ rfl
    refine Zl hk23 <| Run.ret ?_
    have hp : prefF ae plen om base r bad = (Prefix.zero, r, bad || !pfxOk ae plen om) := by unfold prefF; rw [if_pos (by rw [← hbad2]; simpa using c47)]
    rw [hp, hbad2]
    exact J.ends (res_cell rfl rfl g44 (Prefix.enc_sub _)) Tk2 ⟨rfl, rfl⟩
  ·refine Mv 5 E3 <| Sk 6 E3 <| Sk 7 E3 <| Sk 8 E3 <| Pf 9 E4 <| Ef 10 E2 (Zc E2 ce111 Tk2 (fun F' hle hr => need_spec F' (bad := bad1) false)) ?_
   rintro _ _ ⟨_, ⟨rfl, rfl⟩, rfl⟩
   refine J.app <| Zl hk6 <| Run.seq fun _ hk24 => Run.seq fun _ hk25 => Run.region ?_
   obtain ⟨bad2, hb2⟩ : ∃ bad2, bad2 = (bad1 || !false) := ⟨_, rfl⟩
   rw [← hb2]
   have hbad2 : bad2 = (bad || !pfxOk ae plen om) := by rw [hb2, hbad1]; unfold pfxOk; rw [← hoff, decide_eq_false c39]; cases bad <;> cases knownAE ae <;> simp
   refine Mv 0 E3 <| Ef 1 E2 (Zc E2 ce83 Tk2 (fun F' hle hr => sound_spec F' (bad := bad2))) ?_
   rintro _ _ ⟨_, ⟨rfl, rfl⟩, rfl⟩
   refine J.app <| J.caseB (fun c47 => ?_) (fun c47 => ?_)
   ·refine Qp 2 E2 (Zu E2) <| Zl hk25 <| Zf <| Run.skip <| hk24 _ _ <| Run.seq fun _ hk26 => Run.regionD (M := [0, 1, 0, 0, 0, 24, 60, 127]) (q := 127) (r := 0) Kr ?_
    have hsd : soundB bad2 r = true := by simpa using c47
    have hb2f : bad2 = false := by revert hsd; unfold soundB; cases bad2 <;> simp
    have hpk : pfxOk ae plen om = true := by rw [hb2f] at hbad2; revert hbad2; cases bad <;> cases pfxOk ae plen om <;> simp
    unfold pfxOk at hpk
    simp only [Bool.and_eq_true, decide_eq_true_eq] at hpk
    obtain ⟨_, hpk1, hpk2⟩ := hpk
    rw [← hoff] at hpk1
    obtain ⟨k, rfl⟩ : ∃ k : Nat, om = (k : Int) := ⟨om.toNat, by omega⟩
    refine Dp 0 E2 (Zm E2) <| Dp 1 E2 (QP.sliceArrLo rfl rfl rfl Tryz.underlying32 z5 (by omega) (by omega)) <| Dp 2 E2 (Zm E2) <| Dp 3 E2 (Zm E2) <| Dp 4 E2 (Zm E2) <| Dp 5 E2 (QP.add64 rfl rfl rfl Og Og) <| Dp 6 E2 (QP.sliceArrLoHi rfl rfl rfl rfl Tryz.underlying32 z5 (by omega) (by omega) (by omega)) <| De 7 <| Om [] rfl rfl (EF.copySl (b := b12) (off := 0) (n := 16) (lo := off) (k := 16 - off) (ys := (base.l.drop off).take (off + k - off)) rfl rfl rfl rfl Tryz.underlying75 z5 (RowsAt.arr (x := base) Rc (by omega)) (fun h => by omega) (Bs.setPatch a0 _ (by omega))) ?_
    rintro _ _ ⟨rfl, rfl⟩
    refine N0 <| Dn <| hk26 _ _ <| Run.seq fun _ hk27 => Run.regionD (M := [0, 0, 3, 7, 0, 16, 48, 112, 0, 0, 768, 2032, 4095]) (q := 2047) (r := 128) Kr ?_
    rw [Nat.add_sub_cancel_left]
    refine Dp 0 E2 (Zm E2) <| Dp 1 E2 (Zm E2) <| Dp 2 E2 (QP.add64 rfl rfl rfl Og Og) <| Dp 3 E2 (QP.sliceArrLo rfl rfl rfl Tryz.underlying32 z5 (by omega) (by omega)) <| Dp 4 E2 (Zm E2) <| Dp 5 E2 (Zn E2) <| Dp 6 E2 (Za E2 f185_0) <| Dr 7 E2 (Z1 E2 g175 (PacketPiece.sub_reader _)) ?_
    refine Dp 8 E2 (Zm E2) <| Dp 9 E2 (Zm E2) <| Dp 10 E2 (QP.sub64 rfl rfl rfl Og Og) <| De 11 <| Om [] rfl rfl (Zc E2 ce75 Tk1 (fun F' hle hr => bytes_spec F' (r := r) ((plen + 7) / 8 - (k : Int)))) ?_
    rintro v69 _ ⟨_, rfl, rfl⟩
    refine N0 <| J.app ?_
    generalize hB : (rdTake r ((plen + 7) / 8 - (k : Int))).1 = B
    refine Dw.slCase (v := v69) (xs := B) Rc (fun a69 c69 hv69 hh69 => ?_)
    subst hv69
    refine De 12 <| Om [] rfl rfl (EF.copySl (b := b12) (off := 0) (n := 16) (lo := off + k) (k := 16 - (off + k)) (ys := B) rfl rfl rfl rfl Tryz.underlying75 z5 (RowsAt.bytes hh69 Rc) (fun h => by omega) (Bs.setPatch (a0.patch off ((base.l.drop off).take k)) B (by omega))) ?_
    rintro _ _ ⟨rfl, rfl⟩
    refine N0 <| Dn <| hk27 _ _ <| Zs fun _ hk28 => Mv 0 E3 <| Qp 1 E2 (QP.mul rfl rfl rfl) ?_
    rw [wrap_i64 (n := 8 * (off : Int)) (by omega) (by omega)]
    refine Mv 2 E3 <| Qp 3 E2 (QP.conv rfl rfl Tryz.underlying5 Tryz.underlying3) ?_
    rw [wrap_i64 (n := plen) (by omega) (by omega)]
    refine Qp 4 E2 (QP.add64 rfl rfl rfl Og Og) <| Sg 5 E3 <| Zl hk28 <| Run.seq fun _ hk29 => Run.seq fun _ hk30 => Run.region ?_
    rw [show Bs.enc ((a0.patch off ((base.l.drop off).take k)).patch (off + k) B) = Bs.enc (maskedT ((a0.patch off ((base.l.drop off).take k)).patch (off + k) B) (8 * (off : Int) + plen) 0) by rw [maskedT_zero]]
    refine Mv 0 E3 <| Zl hk30 <| Run.block <| Run.loop1 (fun (i : Nat) => i ≤ 16) (fun i => .cons 0 (fp b) (.cons 10 (fp b10) (.cons 12 (fp b12) (.cons 15 (.int .i64 (8 * (off : Int) + plen)) (.cons 76 (.int .i64 i) (.nil)))))) (fun i => [blk b (PacketPiece.enc ⟨some ⟨rb, 0, none⟩, t, bad2⟩) 185, RdA rb (rdTake r ((plen + 7) / 8 - (k : Int))).2, blk b10 (Prefix.enc Prefix.zero) 44, blk b12 (Bs.enc (maskedT ((a0.patch off ((base.l.drop off).take k)).patch (off + k) B) (8 * (off : Int) + plen) i)) 32]) (fun i => 16 - i) (0) (Nat.zero_le _) ?_ ?_
    ·exact fun _ j => J.envJ (J.keep Tk4 j) ⟨rfl, rfl, rfl, rfl, rfl, trivial⟩
    rintro i hi16 kl31 hl31
    refine Zs fun _ hk32 => Qp 0 E2 (Zb E3) <| J.caseD (fun c77 => ?_) (fun c77 => ?_)
    ·refine Zl hk32 <| Run.seq fun _ hk33 => Zt <| Run.skip <| hk33 _ _ <| Run.seq fun _ hk34 => Run.block <| Zs fun _ hk35 => Mv 0 E3 <| Sg 1 E3 <| Zl hk35 <| Zs fun _ hk36 => Mv 0 E3 <| Mv 1 E3 <| Qp 2 E2 (QP.mul rfl rfl rfl) ?_
     rw [wrap_i64 (n := 8 * (i : Int)) (by omega) (by omega)]
     refine Qp 3 E2 (QP.sub64 rfl rfl rfl Og Og) <| Sg 4 E3 <| Zl hk36 <| Zs fun _ hk37 => Mv 0 E3 <| Qp 1 E2 (Zb E3) <| J.caseD (fun c84 => ?_) (fun c84 => ?_)
     ·refine Zl hk37 <| Zt <| Run.regionD (M := [0, 1, 3, 0, 8, 24, 56, 127, 255, 511]) (q := 511) (r := 4) Kr ?_
      obtain ⟨c, hc⟩ : ∃ c, ((a0.patch off ((base.l.drop off).take k)).patch (off + k) B).l[i]? = some c := ⟨_, GE (by rw [Bs.h]; omega)⟩
      refine Dp 0 E2 (Zm E2) <| Dp 1 E2 (QP.indexArr rfl rfl rfl Tryz.underlying32 z5 Og Og) <| Dr 2 E2 (Z1 E2 g5 (Bs.subAt _ (maskedT_at hc) (by simp))) ?_
      refine Dp 3 E2 (Zm E2) <| Dp 4 E2 (QP.max2 rfl rfl rfl) <| Dp 5 E2 (QP.shr16 rfl rfl rfl Og Og) <| Dp 6 E2 (QP.conv rfl rfl Tryz.underlying40 Tryz.underlying5) <| Dp 7 E2 (QP.and8 (a := c) (b := maskB (8 * (off : Int) + plen) i) rfl rfl rfl rfl (maskB_wrap (by split <;> omega))) <| Dp 8 E2 (QP.indexArr rfl rfl rfl Tryz.underlying32 z5 Og Og) <| De 9 <| Oa [] rfl (EF.store rfl rfl rfl z5 (Bs.setAt ((maskedT ((a0.patch off ((base.l.drop off).take k)).patch (off + k) B) (8 * (off : Int) + plen) i)) (i := i) (c := (c &&& maskB (8 * (off : Int) + plen) i)) Og (by simp) rfl) (cell_one rfl)) ?_
      rintro _ _ rfl
      refine N0 <| Dn <| hk34 _ _ <| Run.region <| Qp 0 E2 (QP.add64 rfl rfl rfl Og Og) <| Mv 1 E3 <| Sq.nil ?_
      rw [maskedT_succ hc]
      exact J.envJ (J.keep Tk4 (hl31 (i + 1) (by omega) (by omega))) ⟨rfl, rfl, rfl, rfl, rfl, trivial⟩
     ·refine Zl hk37 <| Zf <| Run.skip <| hk34 _ _ <| Run.region <| Qp 0 E2 (QP.add64 rfl rfl rfl Og Og) <| Mv 1 E3 <| Sq.nil ?_
      rw [maskedT_skip (by omega) (by omega)]
      exact J.envJ (J.keep Tk4 (hl31 (i + 1) (by omega) (by omega))) ⟨rfl, rfl, rfl, rfl, rfl, trivial⟩
    ·refine Zl hk32 <| Run.seq fun _ hk38 => Zf <| Run.exit rfl <| hk29 _ _ <| Run.seq fun _ hk39 => Run.region ?_
     obtain rfl : i = 16 := by omega
     rw [maskedT_all]
     have hL : (⟨(8 * (off : Int) + plen), by omega, by omega⟩ : I64) = pfxL ae plen := Subtype.ext (by rw [pfxL_val hpl.1 hpl.2, ← hoff])
     refine Qq 0 E2 (Z0 E2 g32 (Bs.sub _)) ?_
     refine Mv 1 E3 <| Qp 2 E2 (QP.build (l := Prefix.enc ⟨maskedB ((a0.patch off ((base.l.drop off).take k)).patch (off + k) B) (8 * (off : Int) + plen), (⟨(8 * (off : Int) + plen), by omega, by omega⟩ : I64)⟩) rfl st44 rfl (by exact ⟨congrArg some (Bs.len _).symm, ⟨rfl, trivial⟩⟩) rfl) <| Ac 3 rfl (EF.storeA rfl rfl rfl z44 (SetL.all (Prefix.enc_len _) (Prefix.enc_len _)) (Prefix.enc_cell _)) ?_
     rintro _ _ rfl
     refine Zl hk39 <| Run.ret ?_
     have hp : prefF ae plen (k : Int) base r bad = (⟨maskedB ((a0.patch off ((base.l.drop off).take k)).patch (off + k) B) (8 * (off : Int) + plen), ⟨(8 * (off : Int) + plen), by omega, by omega⟩⟩, (rdTake r ((plen + 7) / 8 - (k : Int))).2, bad || !pfxOk ae plen (k : Int)) := by unfold prefF pfxA; rw [if_neg (by rw [← hbad2, hsd]; simp), ← hoff, ← ha0, ← hL, hB]; rfl
     rw [hp, hbad2]
     exact J.ends (res_cell rfl rfl g44 (Prefix.enc_sub _)) Tk2 ⟨rfl, rfl⟩
   ·refine Qp 2 E2 (Zu E2) <| Zl hk25 <| Zt <| Zs fun _ hk40 => Qp 0 E2 (QP.build (l := Prefix.enc Prefix.zero) rfl st44 rfl (by exact trivial) rfl) <| Ac 1 rfl (EF.storeA rfl rfl rfl z44 (SetL.all (Prefix.enc_len _) (Prefix.enc_len _)) (Prefix.enc_cell _)) ?_
    rintro _ _ rfl
    refine Zl hk40 <| Run.ret ?_
    have hp : prefF ae plen om base r bad = (Prefix.zero, r, bad || !pfxOk ae plen om) := by unfold prefF; rw [if_pos (by rw [← hbad2]; simpa using c47)]
    rw [hp, hbad2]
    exact J.ends (res_cell rfl rfl g44 (Prefix.enc_sub _)) Tk2 ⟨rfl, rfl⟩
 ·intro ku4 hu4
  refine Zs fun _ hk41 => Mv 0 E3 <| Zl hk41 <| Run.block <| Zs fun _ hk42 => Qp 0 E2 (Ze E3) <| J.caseD (fun c24 => ?_) (fun c24 => ?_)
  ·refine Sg 1 E3 <| Zl hk42 <| Zt <| Zs fun _ hk43 => Sg 0 E3 <| Zl hk43 <| Run.region <| Ef 0 E2 (Zc E2 ce113 TN (fun F' hle hr => any4_spec F')) ?_
   rintro _ _ ⟨_, ⟨rfl, rfl⟩, rfl⟩
   refine J.app <| Qp 1 E2 (QP.field rfl rfl Tryz.underlying44 rfl rfl g32 (Prefix.sub_a _)) <| Ac 2 rfl (EF.storeA rfl rfl rfl z32 (SetL.all (Bs.len _) (Bs.len _)) (Bs.cell _)) ?_
   rintro _ _ rfl
   exact Sq.nil <| J.envJ (J.keep Tk5 (hu4 (12) (any4.a) (bad) (⟨by unfold offF; rw [if_pos c24], by unfold baseA; rw [if_pos c24], by unfold knownAE; rw [decide_eq_true c24]; simp⟩))) ⟨rfl, rfl, rfl, rfl, rfl, rfl, rfl, trivial⟩
  ·refine Sg 1 E3 <| Zl hk42 <| Zf <| Zs fun _ hk44 => Qp 0 E2 (Ze E3) <| J.caseD (fun c28 => ?_) (fun c28 => ?_)
   ·exact Sg 1 E3 <| Zl hk44 <| Zt <| Run.skip <| J.envJ (J.keep Tk5 (hu4 (0) (Bs.zero 16) (bad) (⟨by unfold offF; rw [if_neg c24], by unfold baseA; rw [if_neg c24], by unfold knownAE; rw [decide_eq_true c28]; simp⟩))) ⟨rfl, rfl, rfl, rfl, rfl, rfl, rfl, trivial⟩
   ·refine Sg 1 E3 <| Zl hk44 <| Zf <| Run.region <| Mv 0 E3 <| Qp 1 E2 (Zn E2) <| Fa 2 E3 f185_2 <| Ac 3 rfl (EF.store rfl rfl rfl z4 (PacketPiece.set_bad _ _) (cell_one rfl)) ?_
    rintro _ _ rfl
    exact Sq.nil <| J.envJ (J.keep Tk5 (hu4 (0) (Bs.zero 16) (true) (⟨by unfold offF; rw [if_neg c24], by unfold baseA; rw [if_neg c24], by unfold knownAE; rw [decide_eq_false c24, decide_eq_false c28]; simp⟩))) ⟨rfl, rfl, rfl, rfl, rfl, rfl, rfl, trivial⟩
end Slb
