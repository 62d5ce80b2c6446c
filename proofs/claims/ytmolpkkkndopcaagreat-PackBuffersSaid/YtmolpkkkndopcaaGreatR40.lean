/- R40: a part of the proof that a law of this package holds for every input; no condition. -/
import Derived.Test.YtmolpkkkndopcaaGreatM2
import Derived.Test.YtmolpkkkndopcaaGreatR39
import Derived.KernelRfl
namespace Slb
open Go Go.Proofs
set_option maxRecDepth 20000
theorem samesG (F : Fr) (L : List HProp) {a1 a2 : Option Addr} {c1 c2 n : Nat} {xs ys : List TlvX} (hn : n = ys.length) (hm1 : slA 45 68 tlvE (.slice a1 xs.length c1) xs ∈ L) (hm2 : rowsT xs ∈ L) (hxl : xs.length ≤ 4294967296) (hsl : ∀ x ∈ xs, x.l.length ≤ 4294967296)
    (hy : ∀ (F2 : Fr) (q : PH), PH.le F.h F2.h → stars L q → PH.le q F2.h → ArgSl F2 a2 68 tlvE ys ∧ ∀ y ∈ ys, TlvIn F2 y) :
    Spec Tryz.prog 19 #[.slice a1 xs.length c1, .slice a2 n c2] L F fun v S => ∃ b : Bool, v = .bool b ∧ (b = true ↔ xs.map tlvM = ys.map tlvM) ∧ S = L := by
  subst hn
  have h := Spec.lendL (P := Tryz.prog) (f := 19) (args := #[.slice a1 xs.length c1, .slice a2 ys.length c2]) (m := []) (F := F) (L := L) (R := fun v S => ∃ b : Bool, v = .bool b ∧ (b = true ↔ xs.map tlvM = ys.map tlvM) ∧ S = []) (fun F2 q hle hA hq => by
    have h1 := slA_frame (a := a1) (n := xs.length) (c := c1) (e := 45) (enc := tlvE) (xs := xs) tlvE_len hA hq hm1
    have ht : ∀ z ∈ xs, TlvIn F2 z := fun z hm => by
      obtain ⟨p, hp, hpq⟩ := stars_mem hm2 hA
      obtain ⟨p2, hp2, hpq2⟩ := stars_mem (List.mem_map_of_mem (f := stA) hm) hp
      exact slA_arg (fun _ => rfl) hp2 ((hpq2.trans hpq).trans hq)
    obtain ⟨h3, h4⟩ := hy F2 q hle hA hq
    exact rsames_spec F2 (c1 := c1) (c2 := c2) h1 h3 ht h4 hxl hsl)
  rw [List.append_nil] at h
  refine h.mono ?_
  rintro v S ⟨S1, ⟨b, h1, h2, rfl⟩, rfl⟩
  exact ⟨b, h1, h2, List.append_nil _⟩
theorem tlvIn_nil {F : Fr} {x : TlvX} (h : x.l = []) : TlvIn F x := by
  intro h0
  rw [h] at h0
  exact absurd h0 (by simp)

theorem num7_spec (F : Fr) (a : Int) : Spec Tryz.prog 10 #[.int .i64 a] [] F (fun v S => v = .int .i64 a ∧ S = []) := by
 refine Spec.intro (N := 4) (args := [.int .i64 a]) Tryz.func10 rfl rfl (by simp) ?_
 exact Zs fun _ hk1 => Sg 0 E3 <| Zl hk1 <| Zs fun _ hk2 => Mv 0 E3 <| Sg 1 E3 <| Zl hk2 <| Run.ret <| J.ends (res_tmp rfl rfl) Takes.nil ⟨rfl, rfl⟩

theorem huge_spec (F : Fr) {ts : List TlvX} {a : Option Addr} {c : Nat} (ha : ArgSl F a 68 tlvE ts) (hn : ts.length ≤ 9223372036854775807)  : Spec Tryz.prog 5 #[.slice a ts.length c] [] F (fun v S => ∃ b : Bool, v = .bool b ∧ (b = false → ts.length ≤ 200 ∧ ∀ x ∈ ts, x.l.length ≤ 200) ∧ S = []) := by
 refine Spec.intro (N := 24) (args := [.slice a ts.length c]) Tryz.func5 rfl rfl (by simp) ?_
 refine Zs fun _ hk1 => Sg 0 E3 <| Zl hk1 <| Run.seq fun _ hk2 => Zs fun _ hk3 => Sg 0 E3 <| Zl hk3 <| Run.block <| Run.loop1 (fun (i : Nat) => i ≤ ts.length ∧ i ≤ 201 ∧ ∀ (k : Nat) (x : TlvX), k < i → ts[k]? = some x → x.l.length ≤ 200) (fun i => .cons 0 (.slice a ts.length c) (.cons 2 (.bool false) (.cons 3 (.int .i64 i) (.nil)))) (fun i => []) (fun i => 201 - i) (0) (⟨Nat.zero_le _, Nat.zero_le _, fun k x h => absurd h (Nat.not_lt_zero _)⟩) ?_ ?_
 ·exact fun _ j => J.envJ (J.keep Takes.nil j) ⟨rfl, rfl, rfl, trivial⟩
 rintro i ⟨hile, hi201, hsm⟩ kl4 hl4
 refine Run.seq fun _ hk5 => Zs fun _ hk6 => Mv 0 E3 <| Mv 1 E3 <| Qp 2 E2 (QP.len rfl rfl rfl Tryz.underlying24) <| Qp 3 E2 (Zb E3) <| J.caseD (fun c7 => ?_) (fun c7 => ?_)
 ·refine Mv 4 E3 <| Ym 5 E4 <| Yp 6 E3 (QP.leq rfl rfl rfl) <| J.caseD (fun c10 => ?_) (fun c10 => ?_)
  ·refine Pt 7 E4 <| Zl hk6 <| Zt <| Run.skip <| hk5 _ _ <| Run.seq fun _ hk7 => Run.block <| Run.seq fun _ hk8 => Run.region ?_
   obtain ⟨x, hi⟩ : ∃ x, ts[i]? = some x := ⟨_, List.getElem?_eq_getElem (by omega)⟩
   obtain ⟨q1, o1, rfl, hs1⟩ := ha.get (by omega)
   have hm := List.mem_of_getElem? hi
   refine Mv 0 E3 <| Mv 1 E3 <| Qp 2 E2 (QP.indexAddr rfl rfl rfl Tryz.underlying24 z45 Og Og) <| Fa 3 E3 f45_12 <| Qq 4 E2 (QR.loadSlF1 rfl rfl g43 tlvE_len (hs1 _) hi (Tlv.sub_stamps _)) ?_
   refine Qp 5 E2 (QP.len rfl rfl rfl Tryz.underlying43) <| Qp 6 E2 (QP.gtr rfl rfl rfl) <| J.caseD (fun c20 => ?_) (fun c20 => ?_)
   ·exact Zl hk8 <| Zt <| Zs fun _ hk9 => Sg 0 E3 <| Zl hk9 <| Run.ret <| J.ends (res_tmp rfl rfl) Takes.nil ⟨true, rfl, fun h => (by cases h), rfl⟩
   ·exact Zl hk8 <| Zf <| Run.skip <| hk7 _ _ <| Run.region <| Mv 0 E3 <| Qp 1 E2 (QP.add64 rfl rfl rfl Og Og) <| Sg 2 E3 <| Sq.nil <| J.envJ (J.keep Takes.nil (hl4 (i + 1) (⟨by omega, by omega, fun k z hk hz => by rcases Nat.lt_succ_iff_lt_or_eq.1 hk with h | rfl; exact hsm k z h hz; rw [hi] at hz; obtain rfl := Option.some.inj hz; have h9 : ¬ (x.l.length : Int) > 200 := c20; omega⟩) (by omega))) ⟨rfl, rfl, rfl, trivial⟩
  ·exact Pt 7 E4 <| Zl hk6 <| Zf <| Run.exit rfl <| hk2 _ _ <| Zs fun _ hk10 => Mv 0 E3 <| Qp 1 E2 (QP.len rfl rfl rfl Tryz.underlying24) <| Qp 2 E2 (QP.gtr rfl rfl rfl) <| Sg 3 E3 <| Zl hk10 <| Run.ret <| J.ends (res_tmp rfl rfl) Takes.nil ⟨_, rfl, fun h => ⟨by have h9 := of_decide_eq_false h; have h8 : ¬ (ts.length : Int) > 200 := h9; omega, fun x hx => by have h9 := of_decide_eq_false h; have h8 : ¬ (ts.length : Int) > 200 := h9; obtain ⟨k, hk, rfl⟩ := List.getElem_of_mem hx; exact hsm k _ (by omega) (List.getElem?_eq_getElem hk)⟩, rfl⟩
 ·exact Mv 4 E3 <| Sk 5 E3 <| Sk 6 E3 <| Pf 7 E4 <| Zl hk6 <| Zf <| Run.exit rfl <| hk2 _ _ <| Zs fun _ hk11 => Mv 0 E3 <| Qp 1 E2 (QP.len rfl rfl rfl Tryz.underlying24) <| Qp 2 E2 (QP.gtr rfl rfl rfl) <| Sg 3 E3 <| Zl hk11 <| Run.ret <| J.ends (res_tmp rfl rfl) Takes.nil ⟨_, rfl, fun h => ⟨by have h9 := of_decide_eq_false h; have h8 : ¬ (ts.length : Int) > 200 := h9; omega, fun x hx => by have h9 := of_decide_eq_false h; have h8 : ¬ (ts.length : Int) > 200 := h9; obtain ⟨k, hk, rfl⟩ := List.getElem_of_mem hx; exact hsm k _ (by omega) (List.getElem?_eq_getElem hk)⟩, rfl⟩

/-! ### The law's own example -/
def lvS : Bs 16 := ⟨[254, 128, 0, 0, 0, 0, 0, 0, 0, 0, 0, 0, 0, 0, 0, 1], rfl⟩
def lvA (k : UInt8) : Bs 16 := ⟨[k, 0, 0, 0, 0, 0, 0, 0, 0, 0, 0, 0, 0, 0, 0, 0], rfl⟩
def lvP (k : UInt8) : Pair := ⟨⟨lvA k, ⟨8, by decide⟩⟩, Prefix.zero⟩
def lvI : Bs 8 := ⟨[0, 0, 0, 0, 0, 0, 0, 1], rfl⟩
def lvT (k : UInt8) : Tlv := ⟨8, 0, 100, 1, 0, 32, 0, false, false, lvI, lvS, lvP k, ⟨none, 0, 0⟩⟩
def lvX (k : UInt8) : TlvX := ⟨lvT k, none, 0, []⟩
def lvR : List UInt8 := [42, 2, 0, 38, 6, 10, 0, 0, 0, 0, 0, 0, 0, 0, 0, 1, 8, 11, 2, 0, 8, 0, 0, 100, 0, 1, 0, 32, 32, 8, 11, 2, 0, 8, 0, 0, 100, 0, 1, 0, 32, 33]
theorem lv_err : packErr lvS 1000 [lvX 32, lvX 33] = 0 := by kernel_rfl
theorem lv_err2 : packErr lvS 63 [lvX 32] = 2 := by kernel_rfl
theorem lv_pack : packF lvS 1000 [lvX 32, lvX 33] = [lvR] := by kernel_rfl
theorem lv_size : sizeF (tlvS (lvX 32)) (lvX 32).l = 13 := by kernel_rfl
theorem lv_parse : parseF lvS lvR = ([tlvM (lvX 32), tlvM (lvX 33)], 0) := by kernel_rfl
theorem lv_wf (k : UInt8) : (tlvS (lvX k)).WF := by simp [Tlv.WF, Pair.WF, Prefix.WF, lvX, lvT]
theorem lv_set : SetL (lvT 32).enc 33 1 [.int .u8 33] (lvT 33).enc := ⟨(lvT 32).enc.take 33, [.int .u8 32], (lvT 32).enc.drop 34, by kernel_rfl, by kernel_rfl, by kernel_rfl, by kernel_rfl, by kernel_rfl⟩
theorem lv_r32 (k : UInt8) : ∀ n ∈ (lvX k).l, 0 ≤ n ∧ n < 4294967296 := fun n h => by cases h
theorem lv_in {F : Fr} {ks : List UInt8} : ∀ x ∈ ks.map lvX, TlvIn F x := fun x hx => by
  obtain ⟨k, _, rfl⟩ := List.mem_map.1 hx
  exact tlvIn_nil rfl
theorem lv_wfs {ks : List UInt8} : ∀ x ∈ ks.map lvX, (tlvS x).WF := fun x hx => by
  obtain ⟨k, _, rfl⟩ := List.mem_map.1 hx
  exact lv_wf k
theorem lv_r32s {ks : List UInt8} : ∀ x ∈ ks.map lvX, ∀ n ∈ x.l, 0 ≤ n ∧ n < 4294967296 := fun x hx => by
  obtain ⟨k, _, rfl⟩ := List.mem_map.1 hx
  exact lv_r32 k

/-- Parse of one of the packets held. -/
theorem parse_held (F : Fr) (src : Bs 16) {os : List SlX} {y : SlX} (hy : y ∈ os) (hl : y.l.length ≤ 1000000) : Spec Tryz.prog 18 #[.agg (Bs.enc src).toArray, .slice y.a y.n y.c] [rowsS os] F fun v S => ∃ (ts : List TlvX) (va : Value), v = .tuple #[va, .int .i64 (parseF src y.l).2] ∧ ts.map tlvM = (parseF src y.l).1 ∧ S = [rowsS os, slA 45 68 tlvE va ts, rowsT ts] := by
  have h := Spec.lendL (P := Tryz.prog) (f := 18) (args := #[.agg (Bs.enc src).toArray, .slice y.a y.n y.c]) (m := []) (F := F) (L := [rowsS os]) (R := fun v S => ∃ (ts : List TlvX) (va : Value), v = .tuple #[va, .int .i64 (parseF src y.l).2] ∧ ts.map tlvM = (parseF src y.l).1 ∧ S = [slA 45 68 tlvE va ts, rowsT ts]) (fun F2 q hle hA hq => by
    have ht : ArgSl F2 y.a 1 bytE y.l := by
      obtain ⟨p, hp, hpq⟩ := stars_mem (A := rowsS os) (by simp) hA
      obtain ⟨p2, hp2, hpq2⟩ := stars_mem (List.mem_map_of_mem (f := slB) hy) hp
      have hp3 : slA 5 1 bytE (.slice y.a y.l.length y.c) y.l p2 := by have h9 : slB y p2 := hp2; unfold slB at h9; rw [y.h] at h9; exact h9
      exact slA_arg (fun _ => rfl) hp3 ((hpq2.trans hpq).trans hq)
    rw [y.h]
    exact parse_spec F2 src hl ht)
  rw [List.append_nil] at h
  refine h.mono ?_
  rintro v S ⟨S1, ⟨ts, va, h1, h2, rfl⟩, rfl⟩
  exact ⟨ts, va, h1, h2, rfl⟩

set_option maxHeartbeats 2000000 in
theorem live7_spec (F : Fr)  : Spec Tryz.prog 6 #[] [] F (fun v S => v = .bool true ∧ S = []) := by
 refine Spec.intro (N := 82) (args := []) Tryz.func6 rfl rfl (by simp) ?_
 refine Zs fun _ hk1 => Sg 0 E3 <| Zl hk1 <| Zs fun _ hk2 => Qp 0 E2 (QP.const (.agg (Bs.enc lvS).toArray) (fun _ _ => by kernel_rfl)) <| Ef 1 E2 (EF.allocA (l := (Bs.zero 16).enc) rfl zero23) ?_
 rintro _ _ ⟨b1, rfl, rfl⟩
 refine Ac 2 rfl (EF.storeA rfl rfl rfl z23 (SetL.all (Bs.len _) (Bs.len _)) (Bs.cell _)) ?_
 rintro _ _ rfl
 refine Zl hk2 <| Zs fun _ hk3 => Qp 0 E2 (QP.const (.agg (Bs.enc (lvA 32)).toArray) (fun _ _ => by kernel_rfl)) <| Qp 1 E2 (QP.build (l := Prefix.enc ⟨lvA 32, ⟨8, by decide⟩⟩) rfl st40 rfl (by exact ⟨(congrArg some (Bs.len _).symm), ⟨rfl, trivial⟩⟩) rfl) <| Qp 2 E2 (QP.build (l := Pair.enc (lvP 32)) rfl st42 rfl (by exact ⟨(congrArg some (Prefix.enc_len _).symm), trivial⟩) rfl) <| Ef 3 E2 (EF.allocA (l := Pair.enc Pair.zero) rfl zero42) ?_
 rintro _ _ ⟨b2, rfl, rfl⟩
 refine Ac 4 rfl (EF.storeA rfl rfl rfl z42 (SetL.all (Pair.enc_len _) (Pair.enc_len _)) (Pair.enc_cell _)) ?_
 rintro _ _ rfl
 refine Zl hk3 <| Zs fun _ hk4 => Qp 0 E2 (QP.const (.agg (Bs.enc lvI).toArray) (fun _ _ => by kernel_rfl)) <| Qq 1 E2 (Z0 E2 g23 (Bs.sub _)) ?_
 refine Qq 2 E2 (Z0 E2 g42 (Pair.enc_sub _)) ?_
 refine Qp 3 E2 (QP.build (l := Tlv.enc (lvT 32)) rfl st45 rfl (by exact ⟨rfl, rfl, rfl, rfl, (congrArg some (Bs.len _).symm), (congrArg some (Bs.len _).symm), (congrArg some (Pair.enc_len _).symm), trivial⟩) rfl) <| Ef 4 E2 (EF.allocA (l := Tlv.enc Tlv.zero) rfl zero45) ?_
 rintro _ _ ⟨b3, rfl, rfl⟩
 refine Ac 5 rfl (EF.storeA rfl rfl rfl z45 (SetL.all (Tlv.enc_len _) (Tlv.enc_len _)) (Tlv.enc_cell _)) ?_
 rintro _ _ rfl
 refine Zl hk4 <| Zs fun _ hk5 => Qq 0 E2 (Z0 E2 g45 (Tlv.enc_sub _)) ?_
 refine Ef 1 E2 (EF.allocA (l := Tlv.enc Tlv.zero) rfl zero45) ?_
 rintro _ _ ⟨b4, rfl, rfl⟩
 refine Ac 2 rfl (EF.storeA rfl rfl rfl z45 (SetL.all (Tlv.enc_len _) (Tlv.enc_len _)) (Tlv.enc_cell _)) ?_
 rintro _ _ rfl
 refine Zl hk5 <| Zs fun _ hk6 => Fa 0 E3 f45_11 <| Fa 1 E3 f42_0 <| Fa 2 E3 f40_0 <| Qp 3 E2 (QP.indexArr rfl rfl rfl Tryz.underlying23 z5 Og Og) <| Ac 4 rfl (EF.store rfl rfl rfl z5 lv_set (cell_one rfl)) ?_
 rintro _ _ rfl
 refine Zl hk6 <| Zs fun _ hk7 => Qq 0 E2 (Z0 E2 g23 (Bs.sub _)) ?_
 refine Qq 1 E2 (Z0 E2 g45 (Tlv.enc_sub _)) ?_
 refine Qq 2 E2 (Z0 E2 g45 (Tlv.enc_sub _)) ?_
 refine Ef 3 E2 (EF.buildSliceN (enc := Tlv.enc) (xs := [(lvT 32), (lvT 33)]) rfl Tryz.underlying24 z45 zero45 (by simp [Value.cells, Tlv.enc_len]) (by decide) rfl rfl rfl Tlv.enc_len (by decide)) ?_
 rintro _ _ ⟨b28, rfl, rfl⟩
 refine Ef 4 E2 (EF.call rfl ce7 rfl Takes.nil (fun F' hle hr => pack_spec F' lvS (mtu := 1000) (ts := [lvX 32, lvX 33]) (a := some ⟨b28, 0, none⟩) (c := 2) (argSl_all tlvE_len (hr b28 _ Rc)) (lv_in (ks := [32, 33])) (lv_wfs (ks := [32, 33])) (lv_r32s (ks := [32, 33])) (by simp))) ?_
 rintro _ _ ⟨_, ⟨os, oa, oc, rfl, hos, rfl⟩, rfl⟩
 refine J.app ?_
 rw [lv_err]
 refine Mv 5 E3 <| Qp 6 E2 (Zx E3) <| Qp 7 E2 (Zx E3) <| Sg 8 E3 <| Sg 9 E3 <| Zl hk7 <| Zs fun _ hk8 => Qq 0 E2 (Z0 E2 g23 (Bs.sub _)) ?_
 refine Qq 1 E2 (Z0 E2 g45 (Tlv.enc_sub _)) ?_
 refine Ef 2 E2 (EF.buildSlice1 rfl Tryz.underlying24 z45 zero45 (by simp [Value.cells, Tlv.enc_len]) (by decide) rfl rfl (Tlv.enc_len _) (by decide)) ?_
 rintro _ _ ⟨b35, rfl, rfl⟩
 refine Ef 3 E2 (EF.call rfl ce7 rfl Takes.nil (fun F' hle hr => pack_spec F' lvS (mtu := 63) (ts := [lvX 32]) (a := some ⟨b35, 0, none⟩) (c := 1) (argSl_all tlvE_len (hr b35 _ Rc)) (lv_in (ks := [32])) (lv_wfs (ks := [32])) (lv_r32s (ks := [32])) (by simp))) ?_
 rintro _ _ ⟨_, ⟨os2, oa2, oc2, rfl, hos2, rfl⟩, rfl⟩
 refine J.app ?_
 rw [lv_err2]
 refine Mv 4 E3 <| Qp 5 E2 (Zx E3) <| Qp 6 E2 (Zx E3) <| Sg 7 E3 <| Sg 8 E3 <| Zl hk8 <| Run.seq fun _ hk9 => Zs fun _ hk10 => Sq.slCase (v := .slice oa os.length oc) (xs := os) Rc (fun aq cq hvq hhq => ?_)
 cases hvq
 rw [lv_pack] at hos
 have hol : os.length = 1 := by have := congrArg List.length hos; rwa [List.length_map] at this
 obtain ⟨y, hiy⟩ : ∃ y, os[Int.toNat 0]? = some y := ⟨_, List.getElem?_eq_getElem (by show 0 < os.length; omega)⟩
 obtain ⟨bq, oq, rfl⟩ := hhq.get (by omega)
 have hmy : y ∈ os := List.mem_of_getElem? hiy
 have hyl : y.l = lvR := by have h9 := congrArg (fun q => q[0]?) hos; simp only [List.getElem?_map] at h9; rw [show os[0]? = some y from hiy] at h9; exact Option.some.inj h9
 have hyn : y.n = 42 := by rw [y.h, hyl]; rfl
 refine Mv 0 E3 <| Ef 1 E2 (EF.call rfl ce10 rfl Takes.nil (fun F' hle hr => num7_spec F' _)) ?_
 rintro _ _ ⟨_, ⟨rfl, rfl⟩, rfl⟩
 refine J.app <| Qp 2 E2 (Zq E3) <| Mv 3 E3 <| Ym 4 E4 <| Yp 5 E3 (QP.len rfl rfl rfl Tryz.underlying27) <| Yp 6 E3 (Zq E3) <| J.decF (by omega) ?_
 refine Pf 7 E4 <| Mv 8 E3 <| Ym 9 E4 <| Ye 10 E3 (EF.call rfl ce10 rfl Takes.nil (fun F' hle hr => num7_spec F' _)) ?_
 rintro _ _ ⟨_, ⟨rfl, rfl⟩, rfl⟩
 refine J.app <| Yp 11 E3 (Zq E3) <| Pf 12 E4 <| Mv 13 E3 <| Yq 14 E3 (Z0 E2 g45 (Tlv.enc_sub _)) ?_
 refine Ye 15 E3 (EF.call rfl ce13 rfl Takes.nil (fun F' hle hr => size_spec F' (lvX 32) (lv_wf 32) (tlvIn_nil rfl) (lv_r32 32))) ?_
 rintro _ _ ⟨_, ⟨rfl, rfl⟩, rfl⟩
 refine J.app <| Yp 16 E3 (Zq E3) <| J.decF (by rw [lv_size]; decide) ?_
 refine Pf 17 E4 <| Mv 18 E3 <| Ym 19 E4 <| Yp 20 E3 (QP.indexAddr rfl rfl rfl Tryz.underlying27 z46 Og Og) <| Yq 21 E3 (QR.loadSl1 (ev := fun y : SlX => Value.slice y.a y.n y.c) rfl rfl g46 (SlAt.own (fun _ => rfl) Rc) hiy) ?_
 refine Yp 22 E3 (QP.len rfl rfl rfl Tryz.underlying46) <| Yp 23 E3 (Zq E3) <| J.decF (by omega) ?_
 refine Pf 24 E4 <| Zl hk10 <| Zf <| Run.skip <| hk9 _ _ <| Run.seq fun _ hk11 => Run.regionM (M := [0, 0, 2, 6, 15, 31, 63, 63, 127, 511]) (q := 239) (r := 9) mixedT Kr ?_
 refine Dr 0 E2 (Z0 E2 g23 (Bs.sub _)) ?_
 refine Dp 1 E2 (Zm E2) <| Dp 2 E2 (QP.indexAddr rfl rfl rfl Tryz.underlying27 z46 Og Og) <| Dr 3 E2 (QR.loadSl1 (ev := fun y : SlX => Value.slice y.a y.n y.c) rfl rfl g46 (SlAt.own (fun _ => rfl) Rc) hiy) ?_
 refine De 4 <| Om [] rfl rfl (EF.call rfl ce18 rfl Tk1 (fun F' hle hr => parse_held F' lvS hmy (by rw [hyl]; decide))) ?_
 rintro _ _ ⟨_, ⟨ts, va, rfl, hmt, rfl⟩, rfl⟩
 refine ⟨fun _ h => (by cases h), ?_⟩
 refine J.app <| Dp 5 E2 (Zm E2) ?_
 have hfew := parse_few hmt
 rw [hyl] at hmt
 rw [hyl, lv_parse]
 rw [lv_parse] at hmt
 refine Dp 6 E2 (Zx E3) <| Dp 7 E2 (Zx E3) <| De 8 <| Om [] rfl rfl ((Zg E2).eff) ?_
 rintro va _ ⟨rfl, rfl⟩
 refine ⟨fun _ h => (by cases h), ?_⟩
 refine De 9 <| Om [] rfl rfl ((Zg E2).eff) ?_
 rintro _ _ ⟨rfl, rfl⟩
 refine ⟨fun _ h => (by cases h), ?_⟩
 refine Dn <| hk11 _ _ <| Zs fun _ hk12 => Sq.slCase (v := va) (xs := ts) Rc (fun ap cp hvp hhp => ?_)
 subst hvp
 have hlt : ts.length = 2 := by have := congrArg List.length hmt; rwa [List.length_map] at this
 refine Mv 0 E3 <| Ef 1 E2 (EF.call rfl ce10 rfl Takes.nil (fun F' hle hr => num7_spec F' _)) ?_
 rintro _ _ ⟨_, ⟨rfl, rfl⟩, rfl⟩
 refine J.app <| Qp 2 E2 (Ze E3) <| Mv 3 E3 <| Ym 4 E4 <| Yq 5 E3 (Z0 E2 g45 (Tlv.enc_sub _)) ?_
 refine Yq 6 E3 (Z0 E2 g45 (Tlv.enc_sub _)) ?_
 refine Ye 7 E3 (EF.buildSliceN (enc := Tlv.enc) (xs := [(lvT 32), (lvT 33)]) rfl Tryz.underlying24 z45 zero45 (by simp [Value.cells, Tlv.enc_len]) (by decide) rfl rfl rfl Tlv.enc_len (by decide)) ?_
 rintro _ _ ⟨b79, rfl, rfl⟩
 refine Ye 8 E3 (EF.call rfl ce19 rfl Tk3 (fun F' hle hr => samesG F' [slA 45 68 tlvE (.slice ap ts.length cp) ts, rowsT ts, blk b79 ([lvX 32, lvX 33].flatMap tlvE) 45] (a1 := ap) (c1 := cp) (xs := ts) (ys := [lvX 32, lvX 33]) rfl (by simp) (by simp) (by omega) (fun x hx => Nat.le_trans (hfew x hx) (by decide)) (fun F2 q h0 h1 h2 => ⟨argSl_all tlvE_len (blk_frame (ty := 45) h1 h2 (by simp)), lv_in (ks := [32, 33])⟩))) ?_
 rintro _ _ ⟨_, ⟨bb, rfl, hbb, rfl⟩, rfl⟩
 refine J.app <| J.boolT (hbb.2 (by rw [hmt]; rfl)) ?_
 exact Pt 9 E4 <| Sg 10 E3 <| Zl hk12 <| Run.ret <| J.ends (res_tmp rfl rfl) Takes.nil ⟨rfl, rfl⟩
end Slb
