/- J35: a part of the proof that a law of this package holds for every input; no condition. -/
import Derived.Test.YtfokodhfjdhdaaaGreatM2
import Derived.Test.YtfokodhfjdhdaaaGreatJ34
namespace Slb
open Go Go.Proofs
set_option maxRecDepth 20000
structure PackTold where
 id_ : Bs 8
 hops0 : Bs 16
 hops1 : Bs 16
 has0 : Bool
 has1 : Bool
deriving DecidableEq
namespace PackTold
def enc (x : PackTold) : List Value := [x.id_.enc, x.hops0.enc, x.hops1.enc, [.bool x.has0], [.bool x.has1]].flatten
/-- Its numbers are numbers of their kinds. -/
def WF (x : PackTold) : Prop := True ∧ True ∧ True ∧ True ∧ True
theorem enc_len (x : PackTold) : x.enc.length = 42 := by simp [enc, Bs.len]
theorem enc_sub (x : PackTold) : SubL x.enc 0 42 x.enc := by have := SubL.all x.enc; rwa [enc_len] at this
theorem sub_id_ (x : PackTold) : SubL x.enc 0 8 (x.id_.enc) := by have := seg_sub (segs := [x.id_.enc, x.hops0.enc, x.hops1.enc, [.bool x.has0], [.bool x.has1]]) (i := 0) rfl; simpa [enc, lens, Bs.len] using this
theorem set_id_ (x : PackTold) (v : Bs 8) : SetL x.enc 0 8 (v.enc) ({ x with id_ := v } : PackTold).enc := by have := seg_set (segs := [x.id_.enc, x.hops0.enc, x.hops1.enc, [.bool x.has0], [.bool x.has1]]) (i := 0) (s := v.enc) rfl (by simp [Bs.len]); simpa [enc, lens, Bs.len] using this
theorem sub_hops0 (x : PackTold) : SubL x.enc 8 16 (x.hops0.enc) := by have := seg_sub (segs := [x.id_.enc, x.hops0.enc, x.hops1.enc, [.bool x.has0], [.bool x.has1]]) (i := 1) rfl; simpa [enc, lens, Bs.len] using this
theorem set_hops0 (x : PackTold) (v : Bs 16) : SetL x.enc 8 16 (v.enc) ({ x with hops0 := v } : PackTold).enc := by have := seg_set (segs := [x.id_.enc, x.hops0.enc, x.hops1.enc, [.bool x.has0], [.bool x.has1]]) (i := 1) (s := v.enc) rfl (by simp [Bs.len]); simpa [enc, lens, Bs.len] using this
theorem sub_hops1 (x : PackTold) : SubL x.enc 24 16 (x.hops1.enc) := by have := seg_sub (segs := [x.id_.enc, x.hops0.enc, x.hops1.enc, [.bool x.has0], [.bool x.has1]]) (i := 2) rfl; simpa [enc, lens, Bs.len] using this
theorem set_hops1 (x : PackTold) (v : Bs 16) : SetL x.enc 24 16 (v.enc) ({ x with hops1 := v } : PackTold).enc := by have := seg_set (segs := [x.id_.enc, x.hops0.enc, x.hops1.enc, [.bool x.has0], [.bool x.has1]]) (i := 2) (s := v.enc) rfl (by simp [Bs.len]); simpa [enc, lens, Bs.len] using this
theorem sub_has0 (x : PackTold) : SubL x.enc 40 1 ([.bool x.has0]) := by have := seg_sub (segs := [x.id_.enc, x.hops0.enc, x.hops1.enc, [.bool x.has0], [.bool x.has1]]) (i := 3) rfl; simpa [enc, lens, Bs.len] using this
theorem set_has0 (x : PackTold) (v : Bool) : SetL x.enc 40 1 ([.bool v]) ({ x with has0 := v } : PackTold).enc := by have := seg_set (segs := [x.id_.enc, x.hops0.enc, x.hops1.enc, [.bool x.has0], [.bool x.has1]]) (i := 3) (s := [.bool v]) rfl (by simp); simpa [enc, lens, Bs.len] using this
theorem sub_has1 (x : PackTold) : SubL x.enc 41 1 ([.bool x.has1]) := by have := seg_sub (segs := [x.id_.enc, x.hops0.enc, x.hops1.enc, [.bool x.has0], [.bool x.has1]]) (i := 4) rfl; simpa [enc, lens, Bs.len] using this
theorem set_has1 (x : PackTold) (v : Bool) : SetL x.enc 41 1 ([.bool v]) ({ x with has1 := v } : PackTold).enc := by have := seg_set (segs := [x.id_.enc, x.hops0.enc, x.hops1.enc, [.bool x.has0], [.bool x.has1]]) (i := 4) (s := [.bool v]) rfl (by simp); simpa [enc, lens, Bs.len] using this
theorem enc_cell (x : PackTold) : ∀ v ∈ x.enc, Value.cellB v = true := cells_flatten (cells_cons (Bs.cell x.id_) (cells_cons (Bs.cell x.hops0) (cells_cons (Bs.cell x.hops1) (cells_cons (cell_one rfl) (cells_cons (cell_one rfl) cells_nil)))))
def zero : PackTold := ⟨(Bs.zero 8), (Bs.zero 16), (Bs.zero 16), false, false⟩
def segs : List (List Value) := [zero.id_.enc, zero.hops0.enc, zero.hops1.enc, [.bool zero.has0], [.bool zero.has1]]
theorem enc_inj {x y : PackTold} (h0 : x.enc = y.enc) : x = y := by
 obtain ⟨a0, a1, a2, a3, a4⟩ := x
 obtain ⟨b0, b1, b2, b3, b4⟩ := y
 simp only [enc, List.flatten_cons, List.flatten_nil, List.append_nil] at h0
 obtain ⟨e0, h1⟩ := List.append_inj h0 (by rw [Bs.len, Bs.len])
 obtain rfl := Bs.enc_inj e0
 obtain ⟨e1, h2⟩ := List.append_inj h1 (by rw [Bs.len, Bs.len])
 obtain rfl := Bs.enc_inj e1
 obtain ⟨e2, h3⟩ := List.append_inj h2 (by rw [Bs.len, Bs.len])
 obtain rfl := Bs.enc_inj e2
 obtain ⟨e3, h4⟩ := List.append_inj h3 (rfl)
 obtain rfl : a3 = b3 := by simpa using e3
 obtain rfl : a4 = b4 := by simpa using h4
 rfl
end PackTold
structure PackOpen where
 told : PackTold
 body : Slc
namespace PackOpen
def enc (x : PackOpen) : List Value := [x.told.enc, [Slc.v x.body]].flatten
/-- Its numbers are numbers of their kinds. -/
def WF (x : PackOpen) : Prop := x.told.WF ∧ True
theorem enc_len (x : PackOpen) : x.enc.length = 43 := by simp [enc, PackTold.enc_len]
theorem enc_sub (x : PackOpen) : SubL x.enc 0 43 x.enc := by have := SubL.all x.enc; rwa [enc_len] at this
theorem sub_told (x : PackOpen) : SubL x.enc 0 42 (x.told.enc) := by have := seg_sub (segs := [x.told.enc, [Slc.v x.body]]) (i := 0) rfl; simpa [enc, lens, PackTold.enc_len] using this
theorem set_told (x : PackOpen) (v : PackTold) : SetL x.enc 0 42 (v.enc) ({ x with told := v } : PackOpen).enc := by have := seg_set (segs := [x.told.enc, [Slc.v x.body]]) (i := 0) (s := v.enc) rfl (by simp [PackTold.enc_len]); simpa [enc, lens, PackTold.enc_len] using this
theorem sub_body (x : PackOpen) : SubL x.enc 42 1 ([Slc.v x.body]) := by have := seg_sub (segs := [x.told.enc, [Slc.v x.body]]) (i := 1) rfl; simpa [enc, lens, PackTold.enc_len] using this
theorem set_body (x : PackOpen) (v : Slc) : SetL x.enc 42 1 ([Slc.v v]) ({ x with body := v } : PackOpen).enc := by have := seg_set (segs := [x.told.enc, [Slc.v x.body]]) (i := 1) (s := [Slc.v v]) rfl (by simp); simpa [enc, lens, PackTold.enc_len] using this
theorem enc_cell (x : PackOpen) : ∀ v ∈ x.enc, Value.cellB v = true := cells_flatten (cells_cons (PackTold.enc_cell x.told) (cells_cons (cell_one rfl) cells_nil))
def zero : PackOpen := ⟨PackTold.zero, Slc.zero⟩
def segs : List (List Value) := [zero.told.enc, [Slc.v zero.body]]
end PackOpen
theorem chk_own {t : Tlv} (h : checkF t = 0) : (ownF t).2 = true ∧ timesB t = true ∧ sameB t (ownF t).1 = true ∧ (pairedB t = true → checkPairB t.pair = true) ∧ chk2 t = false ∧ chk3 t = false := by
 unfold checkF at h
 split at h
 · cases h
 · rename_i h1
   split at h
   · cases h
   · rename_i h2
     split at h
     · cases h
     · rename_i h3
       unfold chk1 at h1
       simp only [Bool.or_eq_true, Bool.not_eq_true', not_or, Bool.not_eq_false] at h1
       refine ⟨h1.1, h1.2.1, h1.2.2, fun hp => ?_, by simpa using h2, by simpa using h3⟩
       rw [if_pos hp] at h
       unfold ernoB at h
       split at h
       · assumption
       · cases h
theorem chk_facts {t : Tlv} (h : checkF t = 0) : t.stamps.n ≤ 2 ∧ t.type ≠ 0 ∧ (¬ (t.type = 2 ∨ t.type = 3 ∨ t.type = 4 ∨ t.type = 5) → t.all = false → checkB t.pair.dst = true ∧ checkB t.pair.src = true) := by
 obtain ⟨h1, h2, _, h4, _⟩ := chk_own h
 have ht : t.type = 2 ∨ t.type = 3 ∨ t.type = 4 ∨ t.type = 5 ∨ t.type = 8 ∨ t.type = 9 ∨ t.type = 10 := by
   unfold ownF at h1
   repeat' (first | omega | split at h1)
   all_goals first | omega | cases h1
 refine ⟨?_, by omega, fun h5 h6 => ?_⟩
 · unfold timesB at h2
   simp only [Bool.or_eq_true, Bool.and_eq_true, decide_eq_true_eq] at h2
   omega
 · have hp : pairedB t = true := by
     unfold pairedB
     split
     · rw [h6]; rfl
     · simp; omega
   have := h4 hp
   unfold checkPairB at this
   simp only [Bool.and_eq_true] at this
   exact this.1
def sizeF (t : Tlv) (st : List Int) : Nat := if checkF t ≠ 0 then 0 else (pieceF t st).length
theorem piece_len (t : Tlv) {st : List Int} (h : st.length ≤ 2) : (pieceF t st).length ≤ 51 := by
 unfold pieceF
 rw [rawF_len]
 have := body_len t h
 omega
theorem placeN_lt (a : Bs 16) : placeN a < 2 := by unfold placeN; split <;> omega
namespace PackTold
def hop (t : PackTold) (k : Nat) : Bs 16 := if k = 0 then t.hops0 else t.hops1
def has (t : PackTold) (k : Nat) : Bool := if k = 0 then t.has0 else t.has1
def setHop (t : PackTold) (k : Nat) (a : Bs 16) : PackTold := if k = 0 then { t with hops0 := a } else { t with hops1 := a }
def setHas (t : PackTold) (k : Nat) (a : Bool) : PackTold := if k = 0 then { t with has0 := a } else { t with has1 := a }
theorem two {k : Nat} (h : k < 2) : k = 0 ∨ k = 1 := by omega
theorem sub_hop (t : PackTold) {k : Nat} (h : k < 2) : SubL t.enc (8 + (k : Int).toNat * 16) 16 (t.hop k).enc := by
 rcases two h with rfl | rfl
 · exact sub_hops0 t
 · exact sub_hops1 t
theorem sub_has (t : PackTold) {k : Nat} (h : k < 2) : SubL t.enc (40 + (k : Int).toNat * 1) 1 [.bool (t.has k)] := by
 rcases two h with rfl | rfl
 · exact sub_has0 t
 · exact sub_has1 t
theorem set_hop (t : PackTold) {k : Nat} (h : k < 2) (v : Bs 16) : SetL t.enc (8 + (k : Int).toNat * 16) 16 v.enc (t.setHop k v).enc := by
 rcases two h with rfl | rfl
 · exact set_hops0 t v
 · exact set_hops1 t v
theorem set_has (t : PackTold) {k : Nat} (h : k < 2) (v : Bool) : SetL t.enc (40 + (k : Int).toNat * 1) 1 [.bool v] (t.setHas k v).enc := by
 rcases two h with rfl | rfl
 · exact set_has0 t v
 · exact set_has1 t v
end PackTold
theorem PackOpen.set_hop (o : PackOpen) {k : Nat} (h : k < 2) (v : Bs 16) : SetL o.enc (8 + (k : Int).toNat * 16) 16 v.enc ({ o with told := o.told.setHop k v } : PackOpen).enc := by
 have := (PackOpen.set_told o _).trans (PackOpen.sub_told o) (PackTold.set_hop o.told h v)
 rwa [Nat.zero_add] at this
theorem PackOpen.set_has (o : PackOpen) {k : Nat} (h : k < 2) (v : Bool) : SetL o.enc (40 + (k : Int).toNat * 1) 1 [.bool v] ({ o with told := o.told.setHas k v } : PackOpen).enc := by
 have := (PackOpen.set_told o _).trans (PackOpen.sub_told o) (PackTold.set_has o.told h v)
 rwa [Nat.zero_add] at this
/-- What has been told at a packet's begin. -/
def toldB (a : Bs 16) : PackTold := (PackTold.zero.setHop (placeN a) a).setHas (placeN a) true
def add1 (td : PackTold) (t : Tlv) : PackTold × List UInt8 := if td.id_ = t.id_ then (td, []) else ({ td with id_ := t.id_ }, rawF 6 ([0, 0] ++ t.id_.l))
def add2 (td : PackTold) (t : Tlv) : PackTold × List UInt8 :=
 if td.has (placeN t.addr) = true ∧ td.hop (placeN t.addr) = t.addr then (td, [])
 else ((td.setHop (placeN t.addr) t.addr).setHas (placeN t.addr) true, rawF 7 ([(adF t.addr).1, 0] ++ (adF t.addr).2))
/-- What is told ahead of a Tlv. -/
def ahead (td : PackTold) (t : Tlv) : PackTold × List UInt8 :=
 if t.type = 8 ∧ t.metric ≠ 65535 then ((add2 (add1 td t).1 t).1, (add1 td t).2 ++ (add2 (add1 td t).1 t).2) else (td, [])
def addL (td : PackTold) (t : Tlv) (st : List Int) : List UInt8 := (ahead td t).2 ++ pieceF t st
/-- What adding a Tlv leaves, and whether it fitted. -/
def addR (td : PackTold) (t : Tlv) (st : List Int) (l : List UInt8) (mtu : Int) : PackTold × List UInt8 × Bool := if (l.length : Int) + (addL td t st).length + 4 ≤ mtu then ((ahead td t).1, l ++ addL td t st, true) else (td, l, false)

theorem zero172 : Zero Tryz.prog 172 (.agg PackTold.zero.enc.toArray) := fun _ => by kernel_rfl
theorem begin_spec (F : Fr) (a : Bs 16) : Spec Tryz.prog 66 #[.agg (Bs.enc a).toArray] [] F (fun v S => ∃ b, v = .pointer (some ⟨b, 0, none⟩) ∧ S = [blk b (PackOpen.enc ⟨toldB a, Slc.zero⟩) 174, slA 5 1 bytE (.slice none 0 0) []]) := by
 refine Spec.intro (N := 22) (args := [.agg (Bs.enc a).toArray]) Tryz.func66 rfl rfl (by simp) ?_
 refine Zs fun _ hk1 => Ef 0 E2 (EF.boxA rfl rfl) ?_
 rintro _ _ ⟨b1, rfl, rfl⟩
 refine Sg 1 E3 <| Zl hk1 <| Zs fun _ hk2 => Qp 0 E2 (QP.const (.agg (PackOpen.enc PackOpen.zero).toArray) (fun _ _ => by kernel_rfl)) <| Ef 1 E2 (EF.boxA rfl rfl) ?_
 rintro _ _ ⟨b5, rfl, rfl⟩
 refine Sg 2 E3 <| Zl hk2 <| Run.seq fun _ hk3 => Run.regionM (M := [0, 0, 2, 0, 0, 22, 0, 1, 129, 385, 1015, 2039, 8, 4104, 12296, 32767, 65535]) (q := 63451) (r := 82) mixedT Kr ?_
 refine Dp 0 E2 (Zm E2) <| Dr 1 E2 (Z0 E2 g32 (Bs.sub _)) ?_
 refine Dp 3 E2 (Zm E2) <| Dr 4 E2 (Z0 E2 g32 (Bs.sub _)) ?_
 refine Dr 6 E2 (Z0 E2 g32 (Bs.sub _)) ?_
 refine Dp 7 E2 (Zn E2) <| Dp 8 E2 (Za E2 f174_0) <| Dp 9 E2 (Za E2 f172_1) <| Dp 12 E2 (Zn E2) <| Dp 13 E2 (Za E2 f174_0) <| Dp 14 E2 (Za E2 f172_2) <| De 2 <| Om [6, 4] rfl rfl (Zc E2 ce100 TN (fun F' hle hr => place_spec F' a)) ?_
 rintro _ _ ⟨_, ⟨rfl, rfl⟩, rfl⟩
 refine ⟨?_, ?_⟩
 ·rw [FM, FM]
  refine ⟨?_, ?_, NO⟩
  ·refine Look.app ?_
   exact Lk E3 (Z0 E2 g32 (Bs.sub _))
  ·refine Look.app ?_
   exact Lk E3 (Z0 E2 g32 (Bs.sub _))
 refine ?_
 refine J.app <| De 5 <| Om [6] rfl rfl (Zc E2 ce100 TN (fun F' hle hr => place_spec F' a)) ?_
 rintro _ _ ⟨_, ⟨rfl, rfl⟩, rfl⟩
 refine ⟨?_, ?_⟩
 ·rw [FM]
  refine ⟨?_, NO⟩
  ·refine Look.app ?_
   exact Lk E3 (Z0 E2 g32 (Bs.sub _))
 refine ?_
 refine J.app <| Dp 10 E2 (QP.indexArr rfl rfl rfl Tryz.underlying169 z32 (by omega) (by have := placeN_lt a; omega)) <| De 11 <| Oa [] rfl (EF.storeA rfl rfl rfl z32 (PackOpen.set_hop _ (placeN_lt a) _) (Bs.cell _)) ?_
 rintro _ _ rfl
 refine N0 <| Dp 15 E2 (QP.indexArr rfl rfl rfl Tryz.underlying170 z4 (by omega) (by have := placeN_lt a; omega)) <| De 16 <| Oa [] rfl (EF.store rfl rfl rfl z4 (PackOpen.set_has _ (placeN_lt a) true) (cell_one rfl)) ?_
 rintro _ _ rfl
 refine N0 <| Dn <| hk3 _ _ <| Zs fun _ hk4 => Mv 0 E3 <| Sg 1 E3 <| Zl hk4 <| Run.ret <| J.addSl 5 1 bytE ?_
 exact J.ends (res_tmp rfl rfl) Tk2 ⟨b5, rfl, rfl⟩

theorem ad_len (a : Bs 16) : (adF a).2.length ≤ 16 := by
 unfold adF
 split
 · simp only [List.length_take]; omega
 · split <;> simp only [List.length_take] <;> omega
theorem add1_len (td : PackTold) (t : Tlv) : (add1 td t).2.length ≤ 12 := by
 unfold add1
 have := t.id_.h
 split
 all_goals simp [rawF_len]
 all_goals omega
theorem ahead_len (td : PackTold) (t : Tlv) : (ahead td t).2.length ≤ 32 := by
 unfold ahead add1 add2
 have := ad_len t.addr
 have := t.id_.h
 repeat' split
 all_goals simp [rawF_len]
 all_goals omega

set_option maxHeartbeats 4000000 in
theorem add_spec (F : Fr) (x : TlvX) (hw : (tlvS x).WF) (hx : TlvIn F x) (hr32 : ∀ n ∈ x.l, 0 ≤ n ∧ n < 4294967296) (hc0 : checkF (tlvS x) = 0) {b0 : Nat} {td : PackTold} {oa : Option Addr} {oc : Nat} {l : List UInt8} {mtu : Int} (hm1 : 0 ≤ mtu) (hm2 : mtu ≤ 1000000) (hl : l.length ≤ 1000000)  : Spec Tryz.prog 69 #[.pointer (some ⟨b0, 0, none⟩), .agg (Tlv.enc (tlvS x)).toArray, .int .i64 mtu] [blk b0 (PackOpen.enc (⟨td, ⟨oa, l.length, oc⟩⟩ : PackOpen)) 174, slA 5 1 bytE (.slice oa l.length oc) l] F (fun v S => ∃ (a2 : Option Addr) (c2 : Nat), v = .bool (addR td (tlvS x) x.l l mtu).2.2 ∧ S = [blk b0 (PackOpen.enc ⟨(addR td (tlvS x) x.l l mtu).1, ⟨a2, (addR td (tlvS x) x.l l mtu).2.1.length, c2⟩⟩) 174, slA 5 1 bytE (.slice a2 (addR td (tlvS x) x.l l mtu).2.1.length c2) (addR td (tlvS x) x.l l mtu).2.1]) := by
 refine Spec.intro (N := 106) (args := [.pointer (some ⟨b0, 0, none⟩), .agg (Tlv.enc (tlvS x)).toArray, .int .i64 mtu]) Tryz.func69 rfl rfl (by simp) ?_
 refine Zs fun _ hk1 => Ef 0 E2 (EF.boxA rfl rfl) ?_
 rintro _ _ ⟨b4, rfl, rfl⟩
 refine Sg 1 E3 <| Zl hk1 <| Zs fun _ hk2 => Mv 0 E3 <| Qp 1 E2 (Zn E2) <| Fa 2 E3 f174_0 <| Qq 3 E2 (Z0 E2 g172 (PackOpen.sub_told _)) ?_
 refine Ef 4 E2 (EF.allocA (l := PackTold.enc PackTold.zero) rfl zero172) ?_
 rintro _ _ ⟨b7, rfl, rfl⟩
 refine Ac 5 rfl (EF.storeA rfl rfl rfl z172 (SetL.all (PackTold.enc_len _) (PackTold.enc_len _)) (PackTold.enc_cell _)) ?_
 rintro _ _ rfl
 refine Zl hk2 <| Zs fun _ hk3 => Sg 0 E3 <| Zl hk3 <| Run.cut2 (fun (td2 : PackTold) (Z : SlX) => td2 = (ahead td (tlvS x)).1 ∧ Z.l = (ahead td (tlvS x)).2) (fun td2 Z => .cons 0 (.pointer (some ⟨b0, 0, none⟩)) (.cons 2 (.int .i64 mtu) (.cons 4 (fp b4) (.cons 7 (fp b7) (.cons 8 (.slice Z.a Z.n Z.c) (.nil)))))) (fun td2 Z => [blk b0 (PackOpen.enc (⟨td, ⟨oa, l.length, oc⟩⟩ : PackOpen)) 174, slA 5 1 bytE (.slice oa l.length oc) l, blk b4 (Tlv.enc (tlvS x)) 49, blk b7 (PackTold.enc td2) 172, slA 5 1 bytE (.slice Z.a Z.n Z.c) Z.l]) ?_ ?_
 ·rintro td2 Z ⟨hT1, hZ2⟩
  refine Zs fun _ hk5 => Mv 0 E3 <| Qq 1 E2 (Z0 E2 g49 (Tlv.enc_sub _)) ?_
  refine Ef 2 E2 (Zc E2 ce106 TN (fun F' hle hr => piece_spec F' x hw (TlvIn.mono hx hle) (chk_facts hc0).1 hr32 (chk_facts hc0).2.1 (chk_facts hc0).2.2)) ?_
  rintro v78 _ ⟨_, rfl, rfl⟩
  refine J.app <| Sq.slCase (v := v78) (xs := (pieceF (tlvS x) x.l)) Rc (fun a78 c78 hv78 hh78 => ?_)
  subst hv78
  refine Ef 3 E2 (EF.buildSliceS rfl Tryz.underlying108 z75 zero75 rfl (by decide) rfl rfl rfl rfl) ?_
  rintro _ _ ⟨b79, rfl, rfl⟩
  refine J.addSl 5 1 bytE ?_
  refine Sq.eff (i := 4) rfl (Want.none rfl) rfl (ltN rfl) (Zc E2 ce101 Tk4 (fun F' hle hr => putbytes_lent F' [blk b79 [.slice Z.a Z.n Z.c, .slice a78 (pieceF (tlvS x) x.l).length c78] 75, slA 5 1 bytE (.slice Z.a Z.n Z.c) Z.l, slA 5 1 bytE (.slice a78 (pieceF (tlvS x) x.l).length c78) (pieceF (tlvS x) x.l)] (b := b79) (fun A => [blk b79 [.slice Z.a Z.n Z.c, .slice a78 (pieceF (tlvS x) x.l).length c78] 75, slA 5 1 bytE (.slice Z.a Z.n Z.c) Z.l, slA 5 1 bytE (.slice a78 (pieceF (tlvS x) x.l).length c78) (pieceF (tlvS x) x.l), A]) (fun _ => rfl) (xs := []) [Z, ⟨a78, (pieceF (tlvS x) x.l).length, c78, pieceF (tlvS x) x.l, rfl⟩] rfl (by have := piece_len (tlvS x) (chk_facts hc0).1; have := ahead_len td (tlvS x); simp only [catL, List.flatMap_cons, List.flatMap_nil, List.append_nil, List.length_append, List.length_nil]; rw [hZ2]; omega) (by simp) (by simp) (fun F2 q h0 h1 h2 y hy => by
    simp only [List.mem_cons, List.not_mem_nil, or_false] at hy
    rcases hy with hy | hy
    · rw [hy]; exact slA_frame (e := 5) (n := Z.n) (c := Z.c) (fun _ => rfl) h1 h2 (by simp)
    · rw [hy]; exact slA_frame (e := 5) (n := (pieceF (tlvS x) x.l).length) (c := c78) (fun _ => rfl) h1 h2 (by simp)))) ?_
  rintro v80 _ ⟨_, rfl, rfl⟩
  refine J.app ?_
  rw [List.nil_append, show catL [Z, ⟨a78, (pieceF (tlvS x) x.l).length, c78, pieceF (tlvS x) x.l, rfl⟩] = (Z.l ++ pieceF (tlvS x) x.l) by simp [catL]]
  refine Sq.slCase (v := v80) (xs := (Z.l ++ pieceF (tlvS x) x.l)) Rc (fun a80 c80 hv80 hh80 => ?_)
  subst hv80
  refine Sg 5 E3 <| Zl hk5 <| Run.seq fun _ hk6 => Zs fun _ hk7 => Mv 0 E3 <| Qp 1 E2 (QP.len rfl rfl rfl Tryz.underlying75) <| Mv 2 E3 <| Qp 3 E2 (QP.sub64 rfl rfl rfl Og Og) <| Mv 4 E3 <| Qp 5 E2 (Zn E2) <| Fa 6 E3 f174_1 <| Qq 7 E2 (QR.load1 (v := .slice oa l.length oc) rfl rfl g75 (PackOpen.sub_body _)) ?_
  refine Qp 8 E2 (QP.len rfl rfl rfl Tryz.underlying75) <| Qp 9 E2 (QP.sub64 rfl rfl rfl Og Og) <| Qp 10 E2 (QP.gtr rfl rfl rfl) <| J.caseD (fun c91 => ?_) (fun c91 => ?_)
  ·refine Zl hk7 <| Zt <| Zs fun _ hk8 => Sg 0 E3 <| Zl hk8 <| Run.ret ?_
   have hA : addL td (tlvS x) x.l = (Z.l ++ pieceF (tlvS x) x.l) := by unfold addL; rw [hZ2]
   have hR : addR td (tlvS x) x.l l mtu = (td, l, false) := by unfold addR; rw [hA, if_neg (by omega)]
   rw [hR]
   exact J.ends (res_tmp rfl rfl) Tk2 ⟨oa, oc, rfl, rfl⟩
  ·refine Zl hk7 <| Zf <| Run.skip <| hk6 _ _ <| Zs fun _ hk9 => Mv 0 E3 <| Mv 1 E3 <| Qp 2 E2 (Zn E2) <| Fa 3 E3 f174_1 <| Qq 4 E2 (QR.load1 (v := .slice oa l.length oc) rfl rfl g75 (PackOpen.sub_body _)) ?_
   refine Mv 5 E3 <| Ef 6 E2 (EF.buildSliceS rfl Tryz.underlying108 z75 zero75 rfl (by decide) rfl rfl rfl rfl) ?_
   rintro _ _ ⟨b98, rfl, rfl⟩
   refine Sq.eff (i := 7) rfl (Want.none rfl) rfl (ltN rfl) (Zc E2 ce101 Tk3 (fun F' hle hr => putbytes_lent F' [blk b98 [.slice a80 (Z.l ++ pieceF (tlvS x) x.l).length c80] 75, slA 5 1 bytE (.slice a80 (Z.l ++ pieceF (tlvS x) x.l).length c80) (Z.l ++ pieceF (tlvS x) x.l)] (b := b98) (fun A => [blk b98 [.slice a80 (Z.l ++ pieceF (tlvS x) x.l).length c80] 75, slA 5 1 bytE (.slice a80 (Z.l ++ pieceF (tlvS x) x.l).length c80) (Z.l ++ pieceF (tlvS x) x.l), A]) (fun _ => rfl) (xs := l) [⟨a80, (Z.l ++ pieceF (tlvS x) x.l).length, c80, (Z.l ++ pieceF (tlvS x) x.l), rfl⟩] rfl (by have := piece_len (tlvS x) (chk_facts hc0).1; have := ahead_len td (tlvS x); simp only [catL, List.flatMap_cons, List.flatMap_nil, List.append_nil, List.length_append]; rw [hZ2]; omega) (by simp) (by simp) (fun F2 q h0 h1 h2 y hy => by
    simp only [List.mem_cons, List.not_mem_nil, or_false] at hy
    subst hy
    exact slA_frame (e := 5) (n := (Z.l ++ pieceF (tlvS x) x.l).length) (c := c80) (fun _ => rfl) h1 h2 (by simp)))) ?_
   rintro v99 _ ⟨_, rfl, rfl⟩
   refine J.app ?_
   rw [show catL [⟨a80, (Z.l ++ pieceF (tlvS x) x.l).length, c80, (Z.l ++ pieceF (tlvS x) x.l), rfl⟩] = (Z.l ++ pieceF (tlvS x) x.l) by simp [catL]]
   refine Sq.slCase (v := v99) (xs := (l ++ (Z.l ++ pieceF (tlvS x) x.l))) Rc (fun a99 c99 hv99 hh99 => ?_)
   subst hv99
   refine Qp 8 E2 (Zn E2) <| Fa 9 E3 f174_1 <| Ac 10 rfl (EF.store rfl rfl rfl z75 (PackOpen.set_body _ (⟨a99, (l ++ (Z.l ++ pieceF (tlvS x) x.l)).length, c99⟩ : Slc)) (cell_one rfl)) ?_
   rintro _ _ rfl
   refine Zl hk9 <| Zs fun _ hk10 => Mv 0 E3 <| Qq 1 E2 (Z0 E2 g172 (PackTold.enc_sub _)) ?_
   refine Qp 2 E2 (Zn E2) <| Fa 3 E3 f174_0 <| Ac 4 rfl (EF.storeA rfl rfl rfl z172 (PackOpen.set_told _ _) (PackTold.enc_cell _)) ?_
   rintro _ _ rfl
   refine Zl hk10 <| Zs fun _ hk11 => Sg 0 E3 <| Zl hk11 <| Run.ret ?_
   have hA : addL td (tlvS x) x.l = (Z.l ++ pieceF (tlvS x) x.l) := by unfold addL; rw [hZ2]
   have hR : addR td (tlvS x) x.l l mtu = (td2, l ++ (Z.l ++ pieceF (tlvS x) x.l), true) := by unfold addR; rw [hA, if_pos (by omega), hT1]
   rw [hR]
   exact J.ends (res_tmp rfl rfl) Tk2 ⟨a99, c99, rfl, rfl⟩
 ·intro ku4 hu4
  refine Zs fun _ hk12 => Fa 0 E3 f49_0 <| Qq 1 E2 (Z1 E2 g5 (Tlv.sub_type _)) ?_
  refine Qp 2 E2 (Ze E3) <| J.caseD (fun c19 => ?_) (fun c19 => ?_)
  ·refine Mv 3 E3 <| Yf 4 E4 f49_5 <| Yq 5 E3 (Z1 E2 g40 (Tlv.sub_metric _)) ?_
   refine Yp 6 E3 (Zq E3) <| J.caseD (fun c23 => ?_) (fun c23 => ?_)
   ·refine Pt 7 E4 <| Zl hk12 <| Zt <| Run.cut2 (fun (td1 : PackTold) (Z : SlX) => td1 = (add1 td (tlvS x)).1 ∧ Z.l = (add1 td (tlvS x)).2) (fun td1 Z => .cons 0 (.pointer (some ⟨b0, 0, none⟩)) (.cons 2 (.int .i64 mtu) (.cons 4 (fp b4) (.cons 7 (fp b7) (.cons 8 (.slice Z.a Z.n Z.c) (.nil)))))) (fun td1 Z => [blk b0 (PackOpen.enc (⟨td, ⟨oa, l.length, oc⟩⟩ : PackOpen)) 174, slA 5 1 bytE (.slice oa l.length oc) l, blk b4 (Tlv.enc (tlvS x)) 49, blk b7 (PackTold.enc td1) 172, slA 5 1 bytE (.slice Z.a Z.n Z.c) Z.l]) ?_ ?_
    ·rintro td1 Z ⟨hd1, hz1⟩
     refine Zs fun _ hk14 => Fa 0 E3 f49_10 <| Qq 1 E2 (Z0 E2 g32 (Tlv.sub_addr _)) ?_
     refine Ef 2 E2 (Zc E2 ce100 TN (fun F' hle hr => place_spec F' (tlvS x).addr)) ?_
     rintro _ _ ⟨_, ⟨rfl, rfl⟩, rfl⟩
     refine J.app <| Sg 3 E3 <| Zl hk14 <| Run.seq fun _ hk15 => Run.regionD (M := [0, 0, 3, 7, 15, 31, 63, 63, 255, 511, 63, 1087, 4095, 8191]) (q := 16383) (r := 2568) Kr ?_
     refine Dp 0 E2 (Zm E2) <| Dp 1 E2 (Za E2 f172_2) <| Dp 2 E2 (QP.indexArr rfl rfl rfl Tryz.underlying170 z4 (by omega) (by have := placeN_lt (tlvS x).addr; omega)) <| Dr 3 E2 (Z1 E2 g4 (PackTold.sub_has _ (placeN_lt (tlvS x).addr))) ?_
     refine J.caseB (fun c44 => ?_) (fun c44 => ?_)
     ·refine Dp 4 E2 (Zu E2) <| Dp 5 E2 (Zm E2) <| Dy 6 E3 (Zm E2) <| Dy 7 E3 (Za E2 f172_1) <| Dy 8 E3 (QP.indexArr rfl rfl rfl Tryz.underlying169 z32 (by omega) (by have := placeN_lt (tlvS x).addr; omega)) <| Dz 9 E3 (Z0 E2 g32 (PackTold.sub_hop _ (placeN_lt (tlvS x).addr))) ?_
      refine Dy 10 E3 (Za E2 f49_10) <| Dz 11 E3 (Z0 E2 g32 (Tlv.sub_addr _)) ?_
      refine Dy 12 E3 (QP.neq_agg eq32 rfl rfl rfl) <| J.caseD (fun c53 => ?_) (fun c53 => ?_)
      ·refine Dp 13 E2 (QP.pick_f rfl rfl rfl) <| Dn <| hk15 _ _ <| Zt <| Zs fun _ hk16 => Mv 0 E3 <| Mv 1 E3 <| Fa 2 E3 f49_10 <| Qq 3 E2 (Z0 E2 g32 (Tlv.sub_addr _)) ?_
       refine Fa 4 E3 f172_1 <| Qp 5 E2 (QP.indexArr rfl rfl rfl Tryz.underlying169 z32 (by omega) (by have := placeN_lt (tlvS x).addr; omega)) <| Ac 6 rfl (EF.storeA rfl rfl rfl z32 (PackTold.set_hop _ (placeN_lt (tlvS x).addr) _) (Bs.cell _)) ?_
       rintro _ _ rfl
       refine Fa 7 E3 f172_2 <| Qp 8 E2 (QP.indexArr rfl rfl rfl Tryz.underlying170 z4 (by omega) (by have := placeN_lt (tlvS x).addr; omega)) <| Ac 9 rfl (EF.store rfl rfl rfl z4 (PackTold.set_has _ (placeN_lt (tlvS x).addr) true) (cell_one rfl)) ?_
       rintro _ _ rfl
       refine Zl hk16 <| Zs fun _ hk17 => Fa 0 E3 f49_10 <| Qq 1 E2 (Z0 E2 g32 (Tlv.sub_addr _)) ?_
       refine Ef 2 E2 (Zc E2 ce105 TN (fun F' hle hr => paddr_spec F' (tlvS x).addr)) ?_
       rintro _ _ ⟨_, ⟨v68, rfl, rfl⟩, rfl⟩
       refine J.app <| Mv 3 E3 <| Sq.slCase (v := v68) (xs := (adF (tlvS x).addr).2) Rc (fun a68 c68 hv68 hh68 => ?_)
       subst hv68
       refine Qp 4 E2 (Zx E3) <| Qp 5 E2 (Zx E3) <| Sg 6 E3 <| Sg 7 E3 <| Zl hk17 <| Run.region <| Mv 0 E3 <| Mv 1 E3 <| Ef 2 E2 (EF.buildSliceS rfl Tryz.underlying75 z5 zero5 rfl (by decide) rfl rfl rfl rfl) ?_
       rintro _ _ ⟨b71, rfl, rfl⟩
       refine Mv 3 E3 <| Ef 4 E2 (EF.buildSliceS rfl Tryz.underlying108 z75 zero75 rfl (by decide) rfl rfl rfl rfl) ?_
       rintro _ _ ⟨b73, rfl, rfl⟩
       refine Sq.eff (i := 5) rfl (Want.none rfl) rfl (ltN rfl) (Zc E2 ce104 Tk3 (fun F' hle hr => raw_lent F' [blk b73 [.slice (some ⟨b71, 0, none⟩) 2 2, .slice a68 (adF (tlvS x).addr).2.length c68] 75, blk b71 [.int .u8 ((adF (tlvS x).addr).1.toNat : Int), .int .u8 0] 5, slA 32 1 bytE (.slice a68 (adF (tlvS x).addr).2.length c68) (adF (tlvS x).addr).2] (b := b73) (fun A => [blk b73 [.slice (some ⟨b71, 0, none⟩) 2 2, .slice a68 (adF (tlvS x).addr).2.length c68] 75, blk b71 [.int .u8 ((adF (tlvS x).addr).1.toNat : Int), .int .u8 0] 5, slA 32 1 bytE (.slice a68 (adF (tlvS x).addr).2.length c68) (adF (tlvS x).addr).2, A]) (fun _ => rfl) 7 (by decide) rfl [⟨some ⟨b71, 0, none⟩, 2, 2, [(adF (tlvS x).addr).1, 0], rfl⟩, ⟨a68, (adF (tlvS x).addr).2.length, c68, (adF (tlvS x).addr).2, rfl⟩] rfl (by have := ad_len (tlvS x).addr; have := ad_len x.t.addr; simp [catL]; omega) (by simp) (by simp) (fun F2 q h0 h1 h2 y hy => by
    simp only [List.mem_cons, List.not_mem_nil, or_false] at hy
    rcases hy with hy | hy
    · rw [hy]; exact argSl_all (enc := bytE) (xs := [(adF (tlvS x).addr).1, 0]) (fun _ => rfl) (blk_frame (l := [.int .u8 ((adF (tlvS x).addr).1.toNat : Int), .int .u8 0]) (ty := 5) h1 h2 (by simp))
    · rw [hy]; exact slA_frame (e := 32) (n := (adF (tlvS x).addr).2.length) (c := c68) (fun _ => rfl) h1 h2 (by simp)))) ?_
       rintro v74 _ ⟨_, rfl, rfl⟩
       refine J.app <| Sq.slCase (v := v74) (xs := (rawF 7 (catL [⟨some ⟨b71, 0, none⟩, 2, 2, [(adF (tlvS x).addr).1, 0], rfl⟩, ⟨a68, (adF (tlvS x).addr).2.length, c68, (adF (tlvS x).addr).2, rfl⟩]))) Rc (fun a74 c74 hv74 hh74 => ?_)
       subst hv74
       refine Ef 6 E2 (EF.append (xs := Z.l) (ys := rawF 7 (catL [⟨some ⟨b71, 0, none⟩, 2, 2, [(adF (tlvS x).addr).1, 0], rfl⟩, ⟨a68, (adF (tlvS x).addr).2.length, c68, (adF (tlvS x).addr).2, rfl⟩])) el5 (fun _ => rfl) (fun _ => cell_one rfl) rfl rfl rfl Tryz.underlying75 Tryz.underlying75 rfl rfl Rc (RowsAt.ownH (e := 5) (fun _ => rfl) hh74 (by repeat (first | exact List.Mem.head _ | apply List.Mem.tail))) (by have := add1_len td (tlvS x); have := ad_len (tlvS x).addr; have := ad_len x.t.addr; rw [hz1, rawF_len]; simp [catL]; omega)) ?_
       rintro sl75 _ rfl
       refine Sq.slCase (v := sl75) (xs := (Z.l ++ rawF 7 (catL [⟨some ⟨b71, 0, none⟩, 2, 2, [(adF (tlvS x).addr).1, 0], rfl⟩, ⟨a68, (adF (tlvS x).addr).2.length, c68, (adF (tlvS x).addr).2, rfl⟩]))) Rc (fun a75 c75 hv75 hh75 => ?_)
       subst hv75
       exact Sg 7 E3 <| Sq.nil <| J.envJ (J.keep Tk5 (hu4 (_) (⟨a75, _, c75, Z.l ++ rawF 7 (catL [⟨some ⟨b71, 0, none⟩, 2, 2, [(adF (tlvS x).addr).1, 0], rfl⟩, ⟨a68, (adF (tlvS x).addr).2.length, c68, (adF (tlvS x).addr).2, rfl⟩]), rfl⟩) (⟨by unfold ahead; rw [if_pos ⟨c19, c23⟩, ← hd1]; unfold add2; rw [if_neg (by rintro ⟨h1, h2⟩; first | exact c53 h2 | (rw [h1] at c44; cases c44))], by unfold ahead; rw [if_pos ⟨c19, c23⟩, ← hd1, ← hz1]; unfold add2; rw [if_neg (by rintro ⟨h1, h2⟩; first | exact c53 h2 | (rw [h1] at c44; cases c44))]; simp [catL]⟩))) ⟨rfl, rfl, rfl, rfl, rfl, trivial⟩
      ·exact Dp 13 E2 (QP.pick_f rfl rfl rfl) <| Dn <| hk15 _ _ <| Zf <| Run.skip <| J.envJ (J.keep Tk5 (hu4 (_) (Z) (⟨by unfold ahead; rw [if_pos ⟨c19, c23⟩, ← hd1]; unfold add2; rw [if_pos ⟨c44, Decidable.of_not_not c53⟩], by unfold ahead; rw [if_pos ⟨c19, c23⟩, ← hd1, ← hz1]; unfold add2; rw [if_pos ⟨c44, Decidable.of_not_not c53⟩]; simp⟩))) ⟨rfl, rfl, rfl, rfl, rfl, trivial⟩
     ·refine Dp 4 E2 (Zu E2) <| Dp 5 E2 (Zm E2) <| Ds 6 E3 <| Ds 7 E3 <| Ds 8 E3 <| Ds 9 E3 <| Ds 10 E3 <| Ds 11 E3 <| Ds 12 E3 <| Dp 13 E2 (QP.pick_t rfl rfl rfl) <| Dn <| hk15 _ _ <| Zt <| Zs fun _ hk18 => Mv 0 E3 <| Mv 1 E3 <| Fa 2 E3 f49_10 <| Qq 3 E2 (Z0 E2 g32 (Tlv.sub_addr _)) ?_
      refine Fa 4 E3 f172_1 <| Qp 5 E2 (QP.indexArr rfl rfl rfl Tryz.underlying169 z32 (by omega) (by have := placeN_lt (tlvS x).addr; omega)) <| Ac 6 rfl (EF.storeA rfl rfl rfl z32 (PackTold.set_hop _ (placeN_lt (tlvS x).addr) _) (Bs.cell _)) ?_
      rintro _ _ rfl
      refine Fa 7 E3 f172_2 <| Qp 8 E2 (QP.indexArr rfl rfl rfl Tryz.underlying170 z4 (by omega) (by have := placeN_lt (tlvS x).addr; omega)) <| Ac 9 rfl (EF.store rfl rfl rfl z4 (PackTold.set_has _ (placeN_lt (tlvS x).addr) true) (cell_one rfl)) ?_
      rintro _ _ rfl
      refine Zl hk18 <| Zs fun _ hk19 => Fa 0 E3 f49_10 <| Qq 1 E2 (Z0 E2 g32 (Tlv.sub_addr _)) ?_
      refine Ef 2 E2 (Zc E2 ce105 TN (fun F' hle hr => paddr_spec F' (tlvS x).addr)) ?_
      rintro _ _ ⟨_, ⟨v68, rfl, rfl⟩, rfl⟩
      refine J.app <| Mv 3 E3 <| Sq.slCase (v := v68) (xs := (adF (tlvS x).addr).2) Rc (fun a68 c68 hv68 hh68 => ?_)
      subst hv68
      refine Qp 4 E2 (Zx E3) <| Qp 5 E2 (Zx E3) <| Sg 6 E3 <| Sg 7 E3 <| Zl hk19 <| Run.region <| Mv 0 E3 <| Mv 1 E3 <| Ef 2 E2 (EF.buildSliceS rfl Tryz.underlying75 z5 zero5 rfl (by decide) rfl rfl rfl rfl) ?_
      rintro _ _ ⟨b71, rfl, rfl⟩
      refine Mv 3 E3 <| Ef 4 E2 (EF.buildSliceS rfl Tryz.underlying108 z75 zero75 rfl (by decide) rfl rfl rfl rfl) ?_
      rintro _ _ ⟨b73, rfl, rfl⟩
      refine Sq.eff (i := 5) rfl (Want.none rfl) rfl (ltN rfl) (Zc E2 ce104 Tk3 (fun F' hle hr => raw_lent F' [blk b73 [.slice (some ⟨b71, 0, none⟩) 2 2, .slice a68 (adF (tlvS x).addr).2.length c68] 75, blk b71 [.int .u8 ((adF (tlvS x).addr).1.toNat : Int), .int .u8 0] 5, slA 32 1 bytE (.slice a68 (adF (tlvS x).addr).2.length c68) (adF (tlvS x).addr).2] (b := b73) (fun A => [blk b73 [.slice (some ⟨b71, 0, none⟩) 2 2, .slice a68 (adF (tlvS x).addr).2.length c68] 75, blk b71 [.int .u8 ((adF (tlvS x).addr).1.toNat : Int), .int .u8 0] 5, slA 32 1 bytE (.slice a68 (adF (tlvS x).addr).2.length c68) (adF (tlvS x).addr).2, A]) (fun _ => rfl) 7 (by decide) rfl [⟨some ⟨b71, 0, none⟩, 2, 2, [(adF (tlvS x).addr).1, 0], rfl⟩, ⟨a68, (adF (tlvS x).addr).2.length, c68, (adF (tlvS x).addr).2, rfl⟩] rfl (by have := ad_len (tlvS x).addr; have := ad_len x.t.addr; simp [catL]; omega) (by simp) (by simp) (fun F2 q h0 h1 h2 y hy => by
    simp only [List.mem_cons, List.not_mem_nil, or_false] at hy
    rcases hy with hy | hy
    · rw [hy]; exact argSl_all (enc := bytE) (xs := [(adF (tlvS x).addr).1, 0]) (fun _ => rfl) (blk_frame (l := [.int .u8 ((adF (tlvS x).addr).1.toNat : Int), .int .u8 0]) (ty := 5) h1 h2 (by simp))
    · rw [hy]; exact slA_frame (e := 32) (n := (adF (tlvS x).addr).2.length) (c := c68) (fun _ => rfl) h1 h2 (by simp)))) ?_
      rintro v74 _ ⟨_, rfl, rfl⟩
      refine J.app <| Sq.slCase (v := v74) (xs := (rawF 7 (catL [⟨some ⟨b71, 0, none⟩, 2, 2, [(adF (tlvS x).addr).1, 0], rfl⟩, ⟨a68, (adF (tlvS x).addr).2.length, c68, (adF (tlvS x).addr).2, rfl⟩]))) Rc (fun a74 c74 hv74 hh74 => ?_)
      subst hv74
      refine Ef 6 E2 (EF.append (xs := Z.l) (ys := rawF 7 (catL [⟨some ⟨b71, 0, none⟩, 2, 2, [(adF (tlvS x).addr).1, 0], rfl⟩, ⟨a68, (adF (tlvS x).addr).2.length, c68, (adF (tlvS x).addr).2, rfl⟩])) el5 (fun _ => rfl) (fun _ => cell_one rfl) rfl rfl rfl Tryz.underlying75 Tryz.underlying75 rfl rfl Rc (RowsAt.ownH (e := 5) (fun _ => rfl) hh74 (by repeat (first | exact List.Mem.head _ | apply List.Mem.tail))) (by have := add1_len td (tlvS x); have := ad_len (tlvS x).addr; have := ad_len x.t.addr; rw [hz1, rawF_len]; simp [catL]; omega)) ?_
      rintro sl75 _ rfl
      refine Sq.slCase (v := sl75) (xs := (Z.l ++ rawF 7 (catL [⟨some ⟨b71, 0, none⟩, 2, 2, [(adF (tlvS x).addr).1, 0], rfl⟩, ⟨a68, (adF (tlvS x).addr).2.length, c68, (adF (tlvS x).addr).2, rfl⟩]))) Rc (fun a75 c75 hv75 hh75 => ?_)
      subst hv75
      exact Sg 7 E3 <| Sq.nil <| J.envJ (J.keep Tk5 (hu4 (_) (⟨a75, _, c75, Z.l ++ rawF 7 (catL [⟨some ⟨b71, 0, none⟩, 2, 2, [(adF (tlvS x).addr).1, 0], rfl⟩, ⟨a68, (adF (tlvS x).addr).2.length, c68, (adF (tlvS x).addr).2, rfl⟩]), rfl⟩) (⟨by unfold ahead; rw [if_pos ⟨c19, c23⟩, ← hd1]; unfold add2; rw [if_neg (by rintro ⟨h1, h2⟩; first | exact c53 h2 | (rw [h1] at c44; cases c44))], by unfold ahead; rw [if_pos ⟨c19, c23⟩, ← hd1, ← hz1]; unfold add2; rw [if_neg (by rintro ⟨h1, h2⟩; first | exact c53 h2 | (rw [h1] at c44; cases c44))]; simp [catL]⟩))) ⟨rfl, rfl, rfl, rfl, rfl, trivial⟩
    ·intro ku13 hu13
     refine Zs fun _ hk20 => Fa 0 E3 f172_0 <| Qq 1 E2 (Z0 E2 g42 (PackTold.sub_id_ _)) ?_
     refine Fa 2 E3 f49_9 <| Qq 3 E2 (Z0 E2 g42 (Tlv.sub_id_ _)) ?_
     refine Qp 4 E2 (QP.neq_agg eq42 rfl rfl rfl) <| J.caseD (fun c29 => ?_) (fun c29 => ?_)
     ·refine Zl hk20 <| Zt <| Zs fun _ hk21 => Fa 0 E3 f49_9 <| Qq 1 E2 (Z0 E2 g42 (Tlv.sub_id_ _)) ?_
      refine Fa 2 E3 f172_0 <| Ac 3 rfl (EF.storeA rfl rfl rfl z42 (PackTold.set_id_ _ _) (Bs.cell _)) ?_
      rintro _ _ rfl
      refine Zl hk21 <| Run.region <| Ef 0 E2 (EF.buildSliceS rfl Tryz.underlying75 z5 zero5 rfl (by decide) rfl rfl rfl rfl) ?_
      rintro _ _ ⟨b33, rfl, rfl⟩
      refine Fa 1 E3 f49_9 <| Qp 2 E2 (QP.sliceArr rfl rfl Tryz.underlying42 z5) <| Ef 3 E2 (EF.buildSliceS rfl Tryz.underlying108 z75 zero75 rfl (by decide) rfl rfl rfl rfl) ?_
      rintro _ _ ⟨b36, rfl, rfl⟩
      refine Sq.eff (i := 4) rfl (Want.none rfl) rfl (ltN rfl) (Zc E2 ce104 Tk3 (fun F' hle hr => raw_lent F' [blk b36 [.slice (some ⟨b33, 0, none⟩) 2 2, .slice (some ⟨b4, 0 + 9, none⟩) 8 8] 75, blk b33 [.int .u8 0, .int .u8 0] 5, blk b4 (Tlv.enc (tlvS x)) 49] (b := b36) (fun A => [blk b36 [.slice (some ⟨b33, 0, none⟩) 2 2, .slice (some ⟨b4, 0 + 9, none⟩) 8 8] 75, blk b33 [.int .u8 0, .int .u8 0] 5, blk b4 (Tlv.enc (tlvS x)) 49, A]) (fun _ => rfl) 6 (by decide) rfl [⟨some ⟨b33, 0, none⟩, 2, 2, [0, 0], rfl⟩, ⟨some ⟨b4, 0 + 9, none⟩, 8, 8, (tlvS x).id_.l, (tlvS x).id_.h.symm⟩] rfl (by simp [catL, (tlvS x).id_.h]) (by simp) (by simp) (fun F2 q h0 h1 h2 y hy => by
    simp only [List.mem_cons, List.not_mem_nil, or_false] at hy
    rcases hy with hy | hy
    · rw [hy]; exact argSl_all (enc := bytE) (xs := [0, 0]) (fun _ => rfl) (blk_frame (l := [.int .u8 0, .int .u8 0]) (ty := 5) h1 h2 (by simp))
    · rw [hy]; exact arr_arg (blk_frame (l := Tlv.enc (tlvS x)) (ty := 49) h1 h2 (by simp)) (Tlv.sub_id_ (tlvS x))))) ?_
      rintro v37 _ ⟨_, rfl, rfl⟩
      refine J.app <| Sq.slCase (v := v37) (xs := (rawF 6 (catL [⟨some ⟨b33, 0, none⟩, 2, 2, [0, 0], rfl⟩, ⟨some ⟨b4, 0 + 9, none⟩, 8, 8, (tlvS x).id_.l, (tlvS x).id_.h.symm⟩]))) Rc (fun a37 c37 hv37 hh37 => ?_)
      subst hv37
      exact Sg 5 E3 <| Sq.nil <| J.envJ (J.keep Tk5 (hu13 (_) (⟨a37, _, c37, rawF 6 (catL [⟨some ⟨b33, 0, none⟩, 2, 2, [0, 0], rfl⟩, ⟨some ⟨b4, 0 + 9, none⟩, 8, 8, (tlvS x).id_.l, (tlvS x).id_.h.symm⟩]), rfl⟩) (⟨by unfold add1; rw [if_neg c29], by unfold add1; rw [if_neg c29]; try simp [catL]⟩))) ⟨rfl, rfl, rfl, rfl, rfl, trivial⟩
     ·refine Zl hk20 <| Zf <| Run.skip <| J.addSl 5 1 bytE ?_
      exact J.envJ (J.keep Tk5 (hu13 (_) (⟨none, 0, 0, [], rfl⟩) (⟨by unfold add1; rw [if_pos (Decidable.of_not_not c29)], by unfold add1; rw [if_pos (Decidable.of_not_not c29)]; try simp [catL]⟩))) ⟨rfl, rfl, rfl, rfl, rfl, trivial⟩
   ·refine Pt 7 E4 <| Zl hk12 <| Zf <| Run.skip <| J.addSl 5 1 bytE ?_
    exact J.envJ (J.keep Tk5 (hu4 (_) (⟨none, 0, 0, [], rfl⟩) (⟨by unfold ahead; rw [if_neg (by rintro ⟨h1, h2⟩; first | exact c19 h1 | exact c23 h2)], by unfold ahead; rw [if_neg (by rintro ⟨h1, h2⟩; first | exact c19 h1 | exact c23 h2)]⟩))) ⟨rfl, rfl, rfl, rfl, rfl, trivial⟩
  ·refine Mv 3 E3 <| Sk 4 E3 <| Sk 5 E3 <| Sk 6 E3 <| Pf 7 E4 <| Zl hk12 <| Zf <| Run.skip <| J.addSl 5 1 bytE ?_
   exact J.envJ (J.keep Tk5 (hu4 (_) (⟨none, 0, 0, [], rfl⟩) (⟨by unfold ahead; rw [if_neg (by rintro ⟨h1, h2⟩; first | exact c19 h1 | exact c23 h2)], by unfold ahead; rw [if_neg (by rintro ⟨h1, h2⟩; first | exact c19 h1 | exact c23 h2)]⟩))) ⟨rfl, rfl, rfl, rfl, rfl, trivial⟩
end Slb
