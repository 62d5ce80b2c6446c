/- Q40: a part of the proof that a law of this package holds for every input; no condition. -/
import Derived.Test.YtmolpkkkndopcaaM2
import Derived.Test.YtmolpkkkndopcaaQ39
import Derived.KernelRfl
namespace Slb
open Go Go.Proofs
set_option maxRecDepth 20000
theorem samesG (F : Fr) (L : List HProp) {a1 a2 : Option Addr} {c1 c2 n : Nat} {xs ys : List TlvX} (hn : n = ys.length) (hm1 : slA 46 68 tlvE (.slice a1 xs.length c1) xs ∈ L) (hm2 : rowsT xs ∈ L) (hxl : xs.length ≤ 4294967296) (hsl : ∀ x ∈ xs, x.l.length ≤ 4294967296)
    (hy : ∀ (F2 : Fr) (q : PH), PH.le F.h F2.h → stars L q → PH.le q F2.h → ArgSl F2 a2 68 tlvE ys ∧ ∀ y ∈ ys, TlvIn F2 y) :
    Spec Try.prog 11 #[.slice a1 xs.length c1, .slice a2 n c2] L F fun v S => ∃ b : Bool, v = .bool b ∧ (b = true ↔ xs.map tlvM = ys.map tlvM) ∧ S = L := by
  subst hn
  have h := Spec.lendL (P := Try.prog) (f := 11) (args := #[.slice a1 xs.length c1, .slice a2 ys.length c2]) (m := []) (F := F) (L := L) (R := fun v S => ∃ b : Bool, v = .bool b ∧ (b = true ↔ xs.map tlvM = ys.map tlvM) ∧ S = []) (fun F2 q hle hA hq => by
    have h1 := slA_frame (a := a1) (n := xs.length) (c := c1) (e := 46) (enc := tlvE) (xs := xs) tlvE_len hA hq hm1
    have ht : ∀ z ∈ xs, TlvIn F2 z := fun z hm => by
      obtain ⟨p, hp, hpq⟩ := stars_mem hm2 hA
      obtain ⟨p2, hp2, hpq2⟩ := stars_mem (List.mem_map_of_mem (f := stA) hm) hp
      exact slA_arg (fun _ => rfl) hp2 ((hpq2.trans hpq).trans hq)
    obtain ⟨h3, h4⟩ := hy F2 q hle hA hq
    exact rsames_spec F2 (c1 := c1) (c2 := c2) h1 h3 ht h4 hxl hsl)
  rw [List.append_nil] at h
  refine h.mono ?_
  rintro v S ⟨S1, ⟨b, h1, h2, rfl⟩, rfl⟩
  exact ⟨b, h1, h2, List.append_nil _⟩
theorem tlvIn_nil {F : Fr} {x : TlvX} (h : x.l = []) : TlvIn F x := by
  intro h0
  rw [h] at h0
  exact absurd h0 (by simp)

theorem num7_spec (F : Fr) (a : Int) : Spec Try.prog 9 #[.int .i64 a] [] F (fun v S => v = .int .i64 a ∧ S = []) := by
 refine Spec.intro (N := 4) (args := [.int .i64 a]) Try.func9 rfl rfl (by simp) ?_
 refine Run.seq fun k1 hk1 => Run.region ?_
 show Sq _ _ _ [0] _ _ _ _
 refine Sg 0 rfl rfl rfl <| Sq.nil <| hk1 _ _ <| Run.seq fun k2 hk2 => Run.region ?_
 show Sq _ _ _ [0, 1] _ _ _ _
 refine Mv 0 rfl rfl rfl <| Sg 1 rfl rfl rfl <| Sq.nil <| hk2 _ _ <| Run.ret ?_
 exact J.ends (res_tmp rfl rfl) Takes.nil ⟨rfl, rfl⟩

theorem huge_spec (F : Fr) {ts : List TlvX} {a : Option Addr} {c : Nat} (ha : ArgSl F a 68 tlvE ts) (hn : ts.length ≤ 9223372036854775807)  : Spec Try.prog 6 #[.slice a ts.length c] [] F (fun v S => ∃ b : Bool, v = .bool b ∧ (b = false → ts.length ≤ 200 ∧ ∀ x ∈ ts, x.l.length ≤ 200) ∧ S = []) := by
 refine Spec.intro (N := 24) (args := [.slice a ts.length c]) Try.func6 rfl rfl (by simp) ?_
 refine Run.seq fun k1 hk1 => Run.region ?_
 show Sq _ _ _ [0] _ _ _ _
 refine Sg 0 rfl rfl rfl <| Sq.nil <| hk1 _ _ <| Run.seq fun k2 hk2 => Run.seq fun k3 hk3 => Run.region ?_
 show Sq _ _ _ [0] _ _ _ _
 refine Sg 0 rfl rfl rfl <| Sq.nil <| hk3 _ _ <| Run.block <| Run.loop1 (fun (i : Nat) => i ≤ ts.length ∧ i ≤ 201 ∧ ∀ (k : Nat) (x : TlvX), k < i → ts[k]? = some x → x.l.length ≤ 200) (fun i => .cons 0 (.slice a ts.length c) (.cons 2 (.bool false) (.cons 3 (.int .i64 i) (.nil)))) (fun i => []) (fun i => 201 - i) (0) (⟨Nat.zero_le _, Nat.zero_le _, fun k x h => absurd h (Nat.not_lt_zero _)⟩) ?_ ?_
 ·exact fun _ j => J.envJ (J.keep Takes.nil j) ⟨rfl, rfl, rfl, trivial⟩
 rintro i ⟨hile, hi201, hsm⟩ kl4 hl4
 refine Run.seq fun k5 hk5 => Run.seq fun k6 hk6 => Run.region ?_
 show Sq _ _ _ [0, 1, 2, 3, 4, 5, 6, 7] _ _ _ _
 refine Mv 0 rfl rfl rfl <| Mv 1 rfl rfl rfl <| Qp 2 rfl rfl (QP.len rfl rfl rfl Try.underlying24) <| Qp 3 rfl rfl (QP.lss rfl rfl rfl) <| J.caseD (fun c7 => ?_) (fun c7 => ?_)
 ·refine Mv 4 rfl rfl rfl <| Ym 5 rfl rfl rfl rfl <| Yp 6 rfl rfl rfl (QP.leq rfl rfl rfl) <| J.caseD (fun c10 => ?_) (fun c10 => ?_)
  ·refine Pt 7 rfl rfl rfl rfl <| Sq.nil <| hk6 _ _ <| Run.cond_t rfl <| Run.skip <| hk5 _ _ <| Run.seq fun k7 hk7 => Run.block <| Run.seq fun k8 hk8 => Run.region ?_
   show Sq _ _ _ [0, 1, 2, 3, 4, 5, 6] _ _ _ _
   obtain ⟨x, hi⟩ : ∃ x, ts[i]? = some x := ⟨_, List.getElem?_eq_getElem (by omega)⟩
   obtain ⟨q1, o1, rfl, hs1⟩ := ha.get (by omega)
   have hm := List.mem_of_getElem? hi
   refine Mv 0 rfl rfl rfl <| Mv 1 rfl rfl rfl <| Qp 2 rfl rfl (QP.indexAddr rfl rfl rfl Try.underlying24 z46 Og Og) <| Fa 3 rfl rfl rfl f46_12 <| Qq 4 rfl rfl (QR.loadSlF1 rfl rfl g44 tlvE_len (hs1 _) hi (Tlv.sub_stamps _)) ?_
   refine Qp 5 rfl rfl (QP.len rfl rfl rfl Try.underlying44) <| Qp 6 rfl rfl (QP.gtr rfl rfl rfl) <| J.caseD (fun c20 => ?_) (fun c20 => ?_)
   ·refine Sq.nil <| hk8 _ _ <| Run.cond_t rfl <| Run.seq fun k9 hk9 => Run.region ?_
    show Sq _ _ _ [0] _ _ _ _
    refine Sg 0 rfl rfl rfl <| Sq.nil <| hk9 _ _ <| Run.ret ?_
    exact J.ends (res_tmp rfl rfl) Takes.nil ⟨true, rfl, fun h => (by cases h), rfl⟩
   ·refine Sq.nil <| hk8 _ _ <| Run.cond_f rfl <| Run.skip <| hk7 _ _ <| Run.region ?_
    show Sq _ _ _ [0, 1, 2] _ _ _ _
    refine Mv 0 rfl rfl rfl <| Qp 1 rfl rfl (QP.add64 rfl rfl rfl Og Og) <| Sg 2 rfl rfl rfl <| Sq.nil ?_
    exact J.envJ (J.keep Takes.nil (hl4 (i + 1) (⟨by omega, by omega, fun k z hk hz => by rcases Nat.lt_succ_iff_lt_or_eq.1 hk with h | rfl; exact hsm k z h hz; rw [hi] at hz; obtain rfl := Option.some.inj hz; have h9 : ¬ (x.l.length : Int) > 200 := c20; omega⟩) (by omega))) ⟨rfl, rfl, rfl, trivial⟩
  ·refine Pt 7 rfl rfl rfl rfl <| Sq.nil <| hk6 _ _ <| Run.cond_f rfl <| Run.exit rfl ?_
   refine hk2 _ _ <| Run.seq fun k10 hk10 => Run.region ?_
   show Sq _ _ _ [0, 1, 2, 3] _ _ _ _
   refine Mv 0 rfl rfl rfl <| Qp 1 rfl rfl (QP.len rfl rfl rfl Try.underlying24) <| Qp 2 rfl rfl (QP.gtr rfl rfl rfl) <| Sg 3 rfl rfl rfl <| Sq.nil <| hk10 _ _ <| Run.ret ?_
   exact J.ends (res_tmp rfl rfl) Takes.nil ⟨_, rfl, fun h => ⟨by have h9 := of_decide_eq_false h; have h8 : ¬ (ts.length : Int) > 200 := h9; omega, fun x hx => by have h9 := of_decide_eq_false h; have h8 : ¬ (ts.length : Int) > 200 := h9; obtain ⟨k, hk, rfl⟩ := List.getElem_of_mem hx; exact hsm k _ (by omega) (List.getElem?_eq_getElem hk)⟩, rfl⟩
 ·refine Mv 4 rfl rfl rfl <| Sk 5 rfl rfl rfl <| Sk 6 rfl rfl rfl <| Pf 7 rfl rfl rfl rfl <| Sq.nil <| hk6 _ _ <| Run.cond_f rfl <| Run.exit rfl ?_
  refine hk2 _ _ <| Run.seq fun k11 hk11 => Run.region ?_
  show Sq _ _ _ [0, 1, 2, 3] _ _ _ _
  refine Mv 0 rfl rfl rfl <| Qp 1 rfl rfl (QP.len rfl rfl rfl Try.underlying24) <| Qp 2 rfl rfl (QP.gtr rfl rfl rfl) <| Sg 3 rfl rfl rfl <| Sq.nil <| hk11 _ _ <| Run.ret ?_
  exact J.ends (res_tmp rfl rfl) Takes.nil ⟨_, rfl, fun h => ⟨by have h9 := of_decide_eq_false h; have h8 : ¬ (ts.length : Int) > 200 := h9; omega, fun x hx => by have h9 := of_decide_eq_false h; have h8 : ¬ (ts.length : Int) > 200 := h9; obtain ⟨k, hk, rfl⟩ := List.getElem_of_mem hx; exact hsm k _ (by omega) (List.getElem?_eq_getElem hk)⟩, rfl⟩

/-! ### The law's own example -/
def lvS : Bs 16 := ⟨[254, 128, 0, 0, 0, 0, 0, 0, 0, 0, 0, 0, 0, 0, 0, 1], rfl⟩
def lvA (k : UInt8) : Bs 16 := ⟨[k, 0, 0, 0, 0, 0, 0, 0, 0, 0, 0, 0, 0, 0, 0, 0], rfl⟩
def lvP (k : UInt8) : Pair := ⟨⟨lvA k, ⟨8, by decide⟩⟩, Prefix.zero⟩
def lvI : Bs 8 := ⟨[0, 0, 0, 0, 0, 0, 0, 1], rfl⟩
def lvT (k : UInt8) : Tlv := ⟨8, 0, 100, 1, 0, 32, 0, false, false, lvI, lvS, lvP k, ⟨none, 0, 0⟩⟩
def lvX (k : UInt8) : TlvX := ⟨lvT k, none, 0, []⟩
def lvR : List UInt8 := [42, 2, 0, 38, 6, 10, 0, 0, 0, 0, 0, 0, 0, 0, 0, 1, 8, 11, 2, 0, 8, 0, 0, 100, 0, 1, 0, 32, 32, 8, 11, 2, 0, 8, 0, 0, 100, 0, 1, 0, 32, 33]
theorem lv_err : packErr lvS 1000 [lvX 32, lvX 33] = 0 := by kernel_rfl
theorem lv_err2 : packErr lvS 63 [lvX 32] = 2 := by kernel_rfl
theorem lv_pack : packF lvS 1000 [lvX 32, lvX 33] = [lvR] := by kernel_rfl
theorem lv_size : sizeF (tlvS (lvX 32)) (lvX 32).l = 13 := by kernel_rfl
theorem lv_parse : parseF lvS lvR = ([tlvM (lvX 32), tlvM (lvX 33)], 0) := by kernel_rfl
theorem lv_wf (k : UInt8) : (tlvS (lvX k)).WF := by simp [Tlv.WF, Pair.WF, Prefix.WF, lvX, lvT]
theorem lv_set : SetL (lvT 32).enc 33 1 [.int .u8 33] (lvT 33).enc := ⟨(lvT 32).enc.take 33, [.int .u8 32], (lvT 32).enc.drop 34, by kernel_rfl, by kernel_rfl, by kernel_rfl, by kernel_rfl, by kernel_rfl⟩
theorem lv_r32 (k : UInt8) : ∀ n ∈ (lvX k).l, 0 ≤ n ∧ n < 4294967296 := fun n h => by cases h
theorem lv_in {F : Fr} {ks : List UInt8} : ∀ x ∈ ks.map lvX, TlvIn F x := fun x hx => by
  obtain ⟨k, _, rfl⟩ := List.mem_map.1 hx
  exact tlvIn_nil rfl
theorem lv_wfs {ks : List UInt8} : ∀ x ∈ ks.map lvX, (tlvS x).WF := fun x hx => by
  obtain ⟨k, _, rfl⟩ := List.mem_map.1 hx
  exact lv_wf k
theorem lv_r32s {ks : List UInt8} : ∀ x ∈ ks.map lvX, ∀ n ∈ x.l, 0 ≤ n ∧ n < 4294967296 := fun x hx => by
  obtain ⟨k, _, rfl⟩ := List.mem_map.1 hx
  exact lv_r32 k

/-- Parse of one of the packets held. -/
theorem parse_held (F : Fr) (src : Bs 16) {os : List SlX} {y : SlX} (hy : y ∈ os) (hl : y.l.length ≤ 1000000) : Spec Try.prog 10 #[.agg (Bs.enc src).toArray, .slice y.a y.n y.c] [rowsS os] F fun v S => ∃ (ts : List TlvX) (va : Value), v = .tuple #[va, .int .i64 (parseF src y.l).2] ∧ ts.map tlvM = (parseF src y.l).1 ∧ S = [rowsS os, slA 46 68 tlvE va ts, rowsT ts] := by
  have h := Spec.lendL (P := Try.prog) (f := 10) (args := #[.agg (Bs.enc src).toArray, .slice y.a y.n y.c]) (m := []) (F := F) (L := [rowsS os]) (R := fun v S => ∃ (ts : List TlvX) (va : Value), v = .tuple #[va, .int .i64 (parseF src y.l).2] ∧ ts.map tlvM = (parseF src y.l).1 ∧ S = [slA 46 68 tlvE va ts, rowsT ts]) (fun F2 q hle hA hq => by
    have ht : ArgSl F2 y.a 1 bytE y.l := by
      obtain ⟨p, hp, hpq⟩ := stars_mem (A := rowsS os) (by simp) hA
      obtain ⟨p2, hp2, hpq2⟩ := stars_mem (List.mem_map_of_mem (f := slB) hy) hp
      have hp3 : slA 5 1 bytE (.slice y.a y.l.length y.c) y.l p2 := by have h9 : slB y p2 := hp2; unfold slB at h9; rw [y.h] at h9; exact h9
      exact slA_arg (fun _ => rfl) hp3 ((hpq2.trans hpq).trans hq)
    rw [y.h]
    exact parse_spec F2 src hl ht)
  rw [List.append_nil] at h
  refine h.mono ?_
  rintro v S ⟨S1, ⟨ts, va, h1, h2, rfl⟩, rfl⟩
  exact ⟨ts, va, h1, h2, rfl⟩

set_option maxHeartbeats 2000000 in
theorem live7_spec (F : Fr)  : Spec Try.prog 7 #[] [] F (fun v S => v = .bool true ∧ S = []) := by
 refine Spec.intro (N := 82) (args := []) Try.func7 rfl rfl (by simp) ?_
 refine Run.seq fun k1 hk1 => Run.region ?_
 show Sq _ _ _ [0] _ _ _ _
 refine Sg 0 rfl rfl rfl <| Sq.nil <| hk1 _ _ <| Run.seq fun k2 hk2 => Run.region ?_
 show Sq _ _ _ [0, 1, 2] _ _ _ _
 refine Qp 0 rfl rfl (QP.const (.agg (Bs.enc lvS).toArray) (fun _ _ => by kernel_rfl)) <| Ef 1 rfl rfl (EF.allocA (l := (Bs.zero 16).enc) rfl zero23) ?_
 rintro _ _ ⟨b1, rfl, rfl⟩
 refine Ac 2 rfl (EF.storeA rfl rfl rfl z23 (SetL.all (Bs.len _) (Bs.len _)) (Bs.cell _)) ?_
 rintro _ _ rfl
 refine Sq.nil <| hk2 _ _ <| Run.seq fun k3 hk3 => Run.region ?_
 show Sq _ _ _ [0, 1, 2, 3, 4] _ _ _ _
 refine Qp 0 rfl rfl (QP.const (.agg (Bs.enc (lvA 32)).toArray) (fun _ _ => by kernel_rfl)) <| Qp 1 rfl rfl (QP.build (l := Prefix.enc ⟨lvA 32, ⟨8, by decide⟩⟩) rfl st41 rfl (by exact ⟨(congrArg some (Bs.len _).symm), ⟨rfl, trivial⟩⟩) rfl) <| Qp 2 rfl rfl (QP.build (l := Pair.enc (lvP 32)) rfl st43 rfl (by exact ⟨(congrArg some (Prefix.enc_len _).symm), trivial⟩) rfl) <| Ef 3 rfl rfl (EF.allocA (l := Pair.enc Pair.zero) rfl zero43) ?_
 rintro _ _ ⟨b2, rfl, rfl⟩
 refine Ac 4 rfl (EF.storeA rfl rfl rfl z43 (SetL.all (Pair.enc_len _) (Pair.enc_len _)) (Pair.enc_cell _)) ?_
 rintro _ _ rfl
 refine Sq.nil <| hk3 _ _ <| Run.seq fun k4 hk4 => Run.region ?_
 show Sq _ _ _ [0, 1, 2, 3, 4, 5] _ _ _ _
 refine Qp 0 rfl rfl (QP.const (.agg (Bs.enc lvI).toArray) (fun _ _ => by kernel_rfl)) <| Qq 1 rfl rfl (QR.load rfl rfl g23 (Bs.sub _)) ?_
 refine Qq 2 rfl rfl (QR.load rfl rfl g43 (Pair.enc_sub _)) ?_
 refine Qp 3 rfl rfl (QP.build (l := Tlv.enc (lvT 32)) rfl st46 rfl (by exact ⟨rfl, rfl, rfl, rfl, (congrArg some (Bs.len _).symm), (congrArg some (Bs.len _).symm), (congrArg some (Pair.enc_len _).symm), trivial⟩) rfl) <| Ef 4 rfl rfl (EF.allocA (l := Tlv.enc Tlv.zero) rfl zero46) ?_
 rintro _ _ ⟨b3, rfl, rfl⟩
 refine Ac 5 rfl (EF.storeA rfl rfl rfl z46 (SetL.all (Tlv.enc_len _) (Tlv.enc_len _)) (Tlv.enc_cell _)) ?_
 rintro _ _ rfl
 refine Sq.nil <| hk4 _ _ <| Run.seq fun k5 hk5 => Run.region ?_
 show Sq _ _ _ [0, 1, 2] _ _ _ _
 refine Qq 0 rfl rfl (QR.load rfl rfl g46 (Tlv.enc_sub _)) ?_
 refine Ef 1 rfl rfl (EF.allocA (l := Tlv.enc Tlv.zero) rfl zero46) ?_
 rintro _ _ ⟨b4, rfl, rfl⟩
 refine Ac 2 rfl (EF.storeA rfl rfl rfl z46 (SetL.all (Tlv.enc_len _) (Tlv.enc_len _)) (Tlv.enc_cell _)) ?_
 rintro _ _ rfl
 refine Sq.nil <| hk5 _ _ <| Run.seq fun k6 hk6 => Run.region ?_
 show Sq _ _ _ [0, 1, 2, 3, 4] _ _ _ _
 refine Fa 0 rfl rfl rfl f46_11 <| Fa 1 rfl rfl rfl f43_0 <| Fa 2 rfl rfl rfl f41_0 <| Qp 3 rfl rfl (QP.indexArr rfl rfl rfl Try.underlying23 z5 Og Og) <| Ac 4 rfl (EF.store rfl rfl rfl z5 lv_set (cell_one rfl)) ?_
 rintro _ _ rfl
 refine Sq.nil <| hk6 _ _ <| Run.seq fun k7 hk7 => Run.region ?_
 show Sq _ _ _ [0, 1, 2, 3, 4, 5, 6, 7, 8, 9] _ _ _ _
 refine Qq 0 rfl rfl (QR.load rfl rfl g23 (Bs.sub _)) ?_
 refine Qq 1 rfl rfl (QR.load rfl rfl g46 (Tlv.enc_sub _)) ?_
 refine Qq 2 rfl rfl (QR.load rfl rfl g46 (Tlv.enc_sub _)) ?_
 refine Ef 3 rfl rfl (EF.buildSliceN (enc := Tlv.enc) (xs := [(lvT 32), (lvT 33)]) rfl Try.underlying24 z46 zero46 (by simp [Value.cells, Tlv.enc_len]) (by decide) rfl rfl rfl Tlv.enc_len (by decide)) ?_
 rintro _ _ ⟨b28, rfl, rfl⟩
 refine Ef 4 rfl rfl (EF.call rfl ce8 rfl Takes.nil (fun F' hle hr => pack_spec F' lvS (mtu := 1000) (ts := [lvX 32, lvX 33]) (a := some ⟨b28, 0, none⟩) (c := 2) (argSl_all tlvE_len (hr b28 _ Rc)) (lv_in (ks := [32, 33])) (lv_wfs (ks := [32, 33])) (lv_r32s (ks := [32, 33])) (by simp))) ?_
 rintro _ _ ⟨_, ⟨os, oa, oc, rfl, hos, rfl⟩, rfl⟩
 refine J.app ?_
 rw [lv_err]
 refine Mv 5 rfl rfl rfl <| Qp 6 rfl rfl (QP.extract rfl rfl rfl) <| Qp 7 rfl rfl (QP.extract rfl rfl rfl) <| Sg 8 rfl rfl rfl <| Sg 9 rfl rfl rfl <| Sq.nil <| hk7 _ _ <| Run.seq fun k8 hk8 => Run.region ?_
 show Sq _ _ _ [0, 1, 2, 3, 4, 5, 6, 7, 8] _ _ _ _
 refine Qq 0 rfl rfl (QR.load rfl rfl g23 (Bs.sub _)) ?_
 refine Qq 1 rfl rfl (QR.load rfl rfl g46 (Tlv.enc_sub _)) ?_
 refine Ef 2 rfl rfl (EF.buildSlice1 rfl Try.underlying24 z46 zero46 (by simp [Value.cells, Tlv.enc_len]) (by decide) rfl rfl (Tlv.enc_len _) (by decide)) ?_
 rintro _ _ ⟨b35, rfl, rfl⟩
 refine Ef 3 rfl rfl (EF.call rfl ce8 rfl Takes.nil (fun F' hle hr => pack_spec F' lvS (mtu := 63) (ts := [lvX 32]) (a := some ⟨b35, 0, none⟩) (c := 1) (argSl_all tlvE_len (hr b35 _ Rc)) (lv_in (ks := [32])) (lv_wfs (ks := [32])) (lv_r32s (ks := [32])) (by simp))) ?_
 rintro _ _ ⟨_, ⟨os2, oa2, oc2, rfl, hos2, rfl⟩, rfl⟩
 refine J.app ?_
 rw [lv_err2]
 refine Mv 4 rfl rfl rfl <| Qp 5 rfl rfl (QP.extract rfl rfl rfl) <| Qp 6 rfl rfl (QP.extract rfl rfl rfl) <| Sg 7 rfl rfl rfl <| Sg 8 rfl rfl rfl <| Sq.nil <| hk8 _ _ <| Run.seq fun k9 hk9 => Run.seq fun k10 hk10 => Run.region ?_
 show Sq _ _ _ [0, 1, 2, 3, 4, 5, 6, 7, 8, 9, 10, 11, 12, 13, 14, 15, 16, 17, 18, 19, 20, 21, 22, 23, 24] _ _ _ _
 refine Sq.slCase (v := .slice oa os.length oc) (xs := os) Rc (fun aq cq hvq hhq => ?_)
 cases hvq
 rw [lv_pack] at hos
 have hol : os.length = 1 := by have := congrArg List.length hos; rwa [List.length_map] at this
 obtain ⟨y, hiy⟩ : ∃ y, os[Int.toNat 0]? = some y := ⟨_, List.getElem?_eq_getElem (by show 0 < os.length; omega)⟩
 obtain ⟨bq, oq, rfl⟩ := hhq.get (by omega)
 have hmy : y ∈ os := List.mem_of_getElem? hiy
 have hyl : y.l = lvR := by have h9 := congrArg (fun q => q[0]?) hos; simp only [List.getElem?_map] at h9; rw [show os[0]? = some y from hiy] at h9; exact Option.some.inj h9
 have hyn : y.n = 42 := by rw [y.h, hyl]; rfl
 refine Mv 0 rfl rfl rfl <| Ef 1 rfl rfl (EF.call rfl ce9 rfl Takes.nil (fun F' hle hr => num7_spec F' _)) ?_
 rintro _ _ ⟨_, ⟨rfl, rfl⟩, rfl⟩
 refine J.app ?_
 refine Qp 2 rfl rfl (QP.neq rfl rfl rfl) <| Mv 3 rfl rfl rfl <| Ym 4 rfl rfl rfl rfl <| Yp 5 rfl rfl rfl (QP.len rfl rfl rfl Try.underlying27) <| Yp 6 rfl rfl rfl (QP.neq rfl rfl rfl) <| J.decF (by omega) ?_
 refine Pf 7 rfl rfl rfl rfl <| Mv 8 rfl rfl rfl <| Ym 9 rfl rfl rfl rfl <| Ye 10 rfl rfl rfl (EF.call rfl ce9 rfl Takes.nil (fun F' hle hr => num7_spec F' _)) ?_
 rintro _ _ ⟨_, ⟨rfl, rfl⟩, rfl⟩
 refine J.app ?_
 refine Yp 11 rfl rfl rfl (QP.neq rfl rfl rfl) <| Pf 12 rfl rfl rfl rfl <| Mv 13 rfl rfl rfl <| Yq 14 rfl rfl rfl (QR.load rfl rfl g46 (Tlv.enc_sub _)) ?_
 refine Ye 15 rfl rfl rfl (EF.call rfl ce12 rfl Takes.nil (fun F' hle hr => size_spec F' (lvX 32) (lv_wf 32) (tlvIn_nil rfl) (lv_r32 32))) ?_
 rintro _ _ ⟨_, ⟨rfl, rfl⟩, rfl⟩
 refine J.app ?_
 refine Yp 16 rfl rfl rfl (QP.neq rfl rfl rfl) <| J.decF (by rw [lv_size]; decide) ?_
 refine Pf 17 rfl rfl rfl rfl <| Mv 18 rfl rfl rfl <| Ym 19 rfl rfl rfl rfl <| Yp 20 rfl rfl rfl (QP.indexAddr rfl rfl rfl Try.underlying27 z34 Og Og) <| Yq 21 rfl rfl rfl (QR.loadSl1 (ev := fun y : SlX => Value.slice y.a y.n y.c) rfl rfl g34 (SlAt.own (fun _ => rfl) Rc) hiy) ?_
 refine Yp 22 rfl rfl rfl (QP.len rfl rfl rfl Try.underlying34) <| Yp 23 rfl rfl rfl (QP.neq rfl rfl rfl) <| J.decF (by omega) ?_
 refine Pf 24 rfl rfl rfl rfl <| Sq.nil <| hk10 _ _ <| Run.cond_f rfl <| Run.skip <| hk9 _ _ <| Run.seq fun k11 hk11 => Run.regionM (M := [0, 0, 2, 6, 15, 31, 63, 63, 127, 511]) (q := 239) (r := 9) mixedT Kr ?_
 refine Dr 0 rfl rfl (QR.load rfl rfl g23 (Bs.sub _)) ?_
 refine Dp 1 rfl rfl (QP.move rfl rfl) <| Dp 2 rfl rfl (QP.indexAddr rfl rfl rfl Try.underlying27 z34 Og Og) <| Dr 3 rfl rfl (QR.loadSl1 (ev := fun y : SlX => Value.slice y.a y.n y.c) rfl rfl g34 (SlAt.own (fun _ => rfl) Rc) hiy) ?_
 refine De 4 <| Om [] rfl rfl (EF.call rfl ce10 rfl Tk1 (fun F' hle hr => parse_held F' lvS hmy (by rw [hyl]; decide))) ?_
 rintro _ _ ⟨_, ⟨ts, va, rfl, hmt, rfl⟩, rfl⟩
 refine ⟨fun _ h => (by cases h), ?_⟩
 refine J.app ?_
 refine Dp 5 rfl rfl (QP.move rfl rfl) ?_
 have hfew := parse_few hmt
 rw [hyl] at hmt
 rw [hyl, lv_parse]
 rw [lv_parse] at hmt
 refine Dp 6 rfl rfl (QP.extract rfl rfl rfl) <| Dp 7 rfl rfl (QP.extract rfl rfl rfl) <| De 8 <| Om [] rfl rfl ((QP.assign rfl rfl).eff) ?_
 rintro va _ ⟨rfl, rfl⟩
 refine ⟨fun _ h => (by cases h), ?_⟩
 refine De 9 <| Om [] rfl rfl ((QP.assign rfl rfl).eff) ?_
 rintro _ _ ⟨rfl, rfl⟩
 refine ⟨fun _ h => (by cases h), ?_⟩
 refine Dn <| hk11 _ _ <| Run.seq fun k12 hk12 => Run.region ?_
 show Sq _ _ _ [0, 1, 2, 3, 4, 5, 6, 7, 8, 9, 10] _ _ _ _
 refine Sq.slCase (v := va) (xs := ts) Rc (fun ap cp hvp hhp => ?_)
 subst hvp
 have hlt : ts.length = 2 := by have := congrArg List.length hmt; rwa [List.length_map] at this
 refine Mv 0 rfl rfl rfl <| Ef 1 rfl rfl (EF.call rfl ce9 rfl Takes.nil (fun F' hle hr => num7_spec F' _)) ?_
 rintro _ _ ⟨_, ⟨rfl, rfl⟩, rfl⟩
 refine J.app ?_
 refine Qp 2 rfl rfl (QP.eql rfl rfl rfl) <| Mv 3 rfl rfl rfl <| Ym 4 rfl rfl rfl rfl <| Yq 5 rfl rfl rfl (QR.load rfl rfl g46 (Tlv.enc_sub _)) ?_
 refine Yq 6 rfl rfl rfl (QR.load rfl rfl g46 (Tlv.enc_sub _)) ?_
 refine Ye 7 rfl rfl rfl (EF.buildSliceN (enc := Tlv.enc) (xs := [(lvT 32), (lvT 33)]) rfl Try.underlying24 z46 zero46 (by simp [Value.cells, Tlv.enc_len]) (by decide) rfl rfl rfl Tlv.enc_len (by decide)) ?_
 rintro _ _ ⟨b79, rfl, rfl⟩
 refine Ye 8 rfl rfl rfl (EF.call rfl ce11 rfl Tk3 (fun F' hle hr => samesG F' [slA 46 68 tlvE (.slice ap ts.length cp) ts, rowsT ts, blk b79 ([lvX 32, lvX 33].flatMap tlvE) 46] (a1 := ap) (c1 := cp) (xs := ts) (ys := [lvX 32, lvX 33]) rfl (by simp) (by simp) (by omega) (fun x hx => Nat.le_trans (hfew x hx) (by decide)) (fun F2 q h0 h1 h2 => ⟨argSl_all tlvE_len (blk_frame (ty := 46) h1 h2 (by simp)), lv_in (ks := [32, 33])⟩))) ?_
 rintro _ _ ⟨_, ⟨bb, rfl, hbb, rfl⟩, rfl⟩
 refine J.app ?_
 refine J.boolT (hbb.2 (by rw [hmt]; rfl)) ?_
 refine Pt 9 rfl rfl rfl rfl <| Sg 10 rfl rfl rfl <| Sq.nil <| hk12 _ _ <| Run.ret ?_
 exact J.ends (res_tmp rfl rfl) Takes.nil ⟨rfl, rfl⟩
end Slb
