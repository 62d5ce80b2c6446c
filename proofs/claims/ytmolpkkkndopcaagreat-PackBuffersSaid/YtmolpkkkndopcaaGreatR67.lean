/- R67: a part of the proof that a law of this package holds for every input; no condition. -/
import Derived.Test.YtmolpkkkndopcaaGreatM2
import Derived.Test.YtmolpkkkndopcaaGreatR66
namespace Slb
open Go Go.Proofs
set_option maxRecDepth 20000
structure Ref06State where
  id_ : Bs 8
  hasId : Bool
  hop0 : Bs 16
  hop1 : Bs 16
  hop2 : Bs 16
  hasHop0 : Bool
  hasHop1 : Bool
  hasHop2 : Bool
  def0 : Bs 16
  def1 : Bs 16
  def2 : Bs 16
  hasDef0 : Bool
  hasDef1 : Bool
  hasDef2 : Bool
deriving DecidableEq
namespace Ref06State
def enc (x : Ref06State) : List Value := [x.id_.enc, [.bool x.hasId], x.hop0.enc, x.hop1.enc, x.hop2.enc, [.bool x.hasHop0], [.bool x.hasHop1], [.bool x.hasHop2], x.def0.enc, x.def1.enc, x.def2.enc, [.bool x.hasDef0], [.bool x.hasDef1], [.bool x.hasDef2]].flatten
/-- Its numbers are numbers of their kinds. -/
def WF (x : Ref06State) : Prop := True ∧ True ∧ True ∧ True ∧ True ∧ True ∧ True ∧ True ∧ True ∧ True ∧ True ∧ True ∧ True ∧ True
theorem enc_len (x : Ref06State) : x.enc.length = 111 := by simp [enc, Bs.len]
theorem enc_sub (x : Ref06State) : SubL x.enc 0 111 x.enc := by have := SubL.all x.enc; rwa [enc_len] at this
theorem sub_id_ (x : Ref06State) : SubL x.enc 0 8 (x.id_.enc) := by have := seg_sub (segs := [x.id_.enc, [.bool x.hasId], x.hop0.enc, x.hop1.enc, x.hop2.enc, [.bool x.hasHop0], [.bool x.hasHop1], [.bool x.hasHop2], x.def0.enc, x.def1.enc, x.def2.enc, [.bool x.hasDef0], [.bool x.hasDef1], [.bool x.hasDef2]]) (i := 0) rfl; simpa [enc, lens, Bs.len] using this
theorem set_id_ (x : Ref06State) (v : Bs 8) : SetL x.enc 0 8 (v.enc) ({ x with id_ := v } : Ref06State).enc := by have := seg_set (segs := [x.id_.enc, [.bool x.hasId], x.hop0.enc, x.hop1.enc, x.hop2.enc, [.bool x.hasHop0], [.bool x.hasHop1], [.bool x.hasHop2], x.def0.enc, x.def1.enc, x.def2.enc, [.bool x.hasDef0], [.bool x.hasDef1], [.bool x.hasDef2]]) (i := 0) (s := v.enc) rfl (by simp [Bs.len]); simpa [enc, lens, Bs.len] using this
theorem sub_hasId (x : Ref06State) : SubL x.enc 8 1 ([.bool x.hasId]) := by have := seg_sub (segs := [x.id_.enc, [.bool x.hasId], x.hop0.enc, x.hop1.enc, x.hop2.enc, [.bool x.hasHop0], [.bool x.hasHop1], [.bool x.hasHop2], x.def0.enc, x.def1.enc, x.def2.enc, [.bool x.hasDef0], [.bool x.hasDef1], [.bool x.hasDef2]]) (i := 1) rfl; simpa [enc, lens, Bs.len] using this
theorem set_hasId (x : Ref06State) (v : Bool) : SetL x.enc 8 1 ([.bool v]) ({ x with hasId := v } : Ref06State).enc := by have := seg_set (segs := [x.id_.enc, [.bool x.hasId], x.hop0.enc, x.hop1.enc, x.hop2.enc, [.bool x.hasHop0], [.bool x.hasHop1], [.bool x.hasHop2], x.def0.enc, x.def1.enc, x.def2.enc, [.bool x.hasDef0], [.bool x.hasDef1], [.bool x.hasDef2]]) (i := 1) (s := [.bool v]) rfl (by simp); simpa [enc, lens, Bs.len] using this
theorem sub_hop1 (x : Ref06State) : SubL x.enc 25 16 (x.hop1.enc) := by have := seg_sub (segs := [x.id_.enc, [.bool x.hasId], x.hop0.enc, x.hop1.enc, x.hop2.enc, [.bool x.hasHop0], [.bool x.hasHop1], [.bool x.hasHop2], x.def0.enc, x.def1.enc, x.def2.enc, [.bool x.hasDef0], [.bool x.hasDef1], [.bool x.hasDef2]]) (i := 3) rfl; simpa [enc, lens, Bs.len] using this
theorem set_hop1 (x : Ref06State) (v : Bs 16) : SetL x.enc 25 16 (v.enc) ({ x with hop1 := v } : Ref06State).enc := by have := seg_set (segs := [x.id_.enc, [.bool x.hasId], x.hop0.enc, x.hop1.enc, x.hop2.enc, [.bool x.hasHop0], [.bool x.hasHop1], [.bool x.hasHop2], x.def0.enc, x.def1.enc, x.def2.enc, [.bool x.hasDef0], [.bool x.hasDef1], [.bool x.hasDef2]]) (i := 3) (s := v.enc) rfl (by simp [Bs.len]); simpa [enc, lens, Bs.len] using this
theorem sub_hop2 (x : Ref06State) : SubL x.enc 41 16 (x.hop2.enc) := by have := seg_sub (segs := [x.id_.enc, [.bool x.hasId], x.hop0.enc, x.hop1.enc, x.hop2.enc, [.bool x.hasHop0], [.bool x.hasHop1], [.bool x.hasHop2], x.def0.enc, x.def1.enc, x.def2.enc, [.bool x.hasDef0], [.bool x.hasDef1], [.bool x.hasDef2]]) (i := 4) rfl; simpa [enc, lens, Bs.len] using this
theorem set_hop2 (x : Ref06State) (v : Bs 16) : SetL x.enc 41 16 (v.enc) ({ x with hop2 := v } : Ref06State).enc := by have := seg_set (segs := [x.id_.enc, [.bool x.hasId], x.hop0.enc, x.hop1.enc, x.hop2.enc, [.bool x.hasHop0], [.bool x.hasHop1], [.bool x.hasHop2], x.def0.enc, x.def1.enc, x.def2.enc, [.bool x.hasDef0], [.bool x.hasDef1], [.bool x.hasDef2]]) (i := 4) (s := v.enc) rfl (by simp [Bs.len]); simpa [enc, lens, Bs.len] using this
theorem sub_hasHop1 (x : Ref06State) : SubL x.enc 58 1 ([.bool x.hasHop1]) := by have := seg_sub (segs := [x.id_.enc, [.bool x.hasId], x.hop0.enc, x.hop1.enc, x.hop2.enc, [.bool x.hasHop0], [.bool x.hasHop1], [.bool x.hasHop2], x.def0.enc, x.def1.enc, x.def2.enc, [.bool x.hasDef0], [.bool x.hasDef1], [.bool x.hasDef2]]) (i := 6) rfl; simpa [enc, lens, Bs.len] using this
theorem set_hasHop1 (x : Ref06State) (v : Bool) : SetL x.enc 58 1 ([.bool v]) ({ x with hasHop1 := v } : Ref06State).enc := by have := seg_set (segs := [x.id_.enc, [.bool x.hasId], x.hop0.enc, x.hop1.enc, x.hop2.enc, [.bool x.hasHop0], [.bool x.hasHop1], [.bool x.hasHop2], x.def0.enc, x.def1.enc, x.def2.enc, [.bool x.hasDef0], [.bool x.hasDef1], [.bool x.hasDef2]]) (i := 6) (s := [.bool v]) rfl (by simp); simpa [enc, lens, Bs.len] using this
theorem sub_hasHop2 (x : Ref06State) : SubL x.enc 59 1 ([.bool x.hasHop2]) := by have := seg_sub (segs := [x.id_.enc, [.bool x.hasId], x.hop0.enc, x.hop1.enc, x.hop2.enc, [.bool x.hasHop0], [.bool x.hasHop1], [.bool x.hasHop2], x.def0.enc, x.def1.enc, x.def2.enc, [.bool x.hasDef0], [.bool x.hasDef1], [.bool x.hasDef2]]) (i := 7) rfl; simpa [enc, lens, Bs.len] using this
theorem set_hasHop2 (x : Ref06State) (v : Bool) : SetL x.enc 59 1 ([.bool v]) ({ x with hasHop2 := v } : Ref06State).enc := by have := seg_set (segs := [x.id_.enc, [.bool x.hasId], x.hop0.enc, x.hop1.enc, x.hop2.enc, [.bool x.hasHop0], [.bool x.hasHop1], [.bool x.hasHop2], x.def0.enc, x.def1.enc, x.def2.enc, [.bool x.hasDef0], [.bool x.hasDef1], [.bool x.hasDef2]]) (i := 7) (s := [.bool v]) rfl (by simp); simpa [enc, lens, Bs.len] using this
theorem enc_cell (x : Ref06State) : ∀ v ∈ x.enc, Value.cellB v = true := cells_flatten (cells_cons (Bs.cell x.id_) (cells_cons (cell_one rfl) (cells_cons (Bs.cell x.hop0) (cells_cons (Bs.cell x.hop1) (cells_cons (Bs.cell x.hop2) (cells_cons (cell_one rfl) (cells_cons (cell_one rfl) (cells_cons (cell_one rfl) (cells_cons (Bs.cell x.def0) (cells_cons (Bs.cell x.def1) (cells_cons (Bs.cell x.def2) (cells_cons (cell_one rfl) (cells_cons (cell_one rfl) (cells_cons (cell_one rfl) cells_nil))))))))))))))
def zero : Ref06State := ⟨(Bs.zero 8), false, (Bs.zero 16), (Bs.zero 16), (Bs.zero 16), false, false, false, (Bs.zero 16), (Bs.zero 16), (Bs.zero 16), false, false, false⟩
def segs : List (List Value) := [zero.id_.enc, [.bool zero.hasId], zero.hop0.enc, zero.hop1.enc, zero.hop2.enc, [.bool zero.hasHop0], [.bool zero.hasHop1], [.bool zero.hasHop2], zero.def0.enc, zero.def1.enc, zero.def2.enc, [.bool zero.hasDef0], [.bool zero.hasDef1], [.bool zero.hasDef2]]
end Ref06State
theorem res_tc {P : Program} {N : Nat} {G : Env} {S : List HProp} {F : Fr} {fn : Func} {t u b k : Nat} {ty ety : TypeId} {l : List Value} {x : Value} (h : fn.results = #[.tmp u, .cell t ty]) (hx : lk G u = some x) (hv : lk G t = some (.pointer (some ⟨b, 0, none⟩))) (ht : Agg P ty k) [hb : HasBlk b S l ety] (hs : SubL l 0 k l) :
    J N G S F fun a w => (results fn a.tmps).run P w = .ok (.tuple #[x, .agg l.toArray]) w := fun a w s => by
  have h1 := s.slots t _ hv
  have h2 := s.slots u _ hx
  have := run_loadAgg ht (s.sat.mem hb.mem) hs
  simp [results, h, h1, h2, asAddr, Sem.run, this, pure]
namespace Ref06State
def hop (t : Ref06State) (k : Nat) : Bs 16 := if k = 1 then t.hop1 else t.hop2
def has (t : Ref06State) (k : Nat) : Bool := if k = 1 then t.hasHop1 else t.hasHop2
def setHop (t : Ref06State) (k : Nat) (a : Bs 16) : Ref06State := if k = 1 then { t with hop1 := a } else { t with hop2 := a }
def setHas (t : Ref06State) (k : Nat) (a : Bool) : Ref06State := if k = 1 then { t with hasHop1 := a } else { t with hasHop2 := a }
theorem sub_hop (t : Ref06State) {k : Nat} (h : k = 1 ∨ k = 2) : SubL t.enc (9 + (k : Int).toNat * 16) 16 (t.hop k).enc := by
  rcases h with rfl | rfl
  · exact sub_hop1 t
  · exact sub_hop2 t
theorem sub_has (t : Ref06State) {k : Nat} (h : k = 1 ∨ k = 2) : SubL t.enc (57 + (k : Int).toNat * 1) 1 [.bool (t.has k)] := by
  rcases h with rfl | rfl
  · exact sub_hasHop1 t
  · exact sub_hasHop2 t
theorem set_hop (t : Ref06State) {k : Nat} (h : k = 1 ∨ k = 2) (v : Bs 16) : SetL t.enc (9 + (k : Int).toNat * 16) 16 v.enc (t.setHop k v).enc := by
  rcases h with rfl | rfl
  · exact set_hop1 t v
  · exact set_hop2 t v
theorem set_has (t : Ref06State) {k : Nat} (h : k = 1 ∨ k = 2) (v : Bool) : SetL t.enc (57 + (k : Int).toNat * 1) 1 [.bool v] (t.setHas k v).enc := by
  rcases h with rfl | rfl
  · exact set_hasHop1 t v
  · exact set_hasHop2 t v
def seg6 : List (List Value) := [(Bs.zero 8).enc, [.bool false], (Bs.zero 48).enc, [.bool false, .bool false, .bool false], (Bs.zero 48).enc, [.bool false, .bool false, .bool false]]
end Ref06State
theorem st117 : StructTy Tryz.prog 117 Ref06State.seg6 := ⟨fun _ => by kernel_rfl, _, Tryz.underlying117, fun _ => by kernel_rfl⟩
theorem zero117 : Zero Tryz.prog 117 (.agg Ref06State.zero.enc.toArray) := fun _ => by kernel_rfl
/-- The kind of an address. -/
def kN (a : Bs 16) : Nat := if familyB a = 4 then 1 else 2
theorem kN_two (a : Bs 16) : kN a = 1 ∨ kN a = 2 := by unfold kN; split <;> simp
theorem kN_ae (a : Bs 16) : (if familyB a = 4 then (1 : Int) else 2) = (kN a : Nat) := by unfold kN; split <;> rfl
/-- What has been told, as the document keeps it. -/
def stF (t : PackTold) : Ref06State := ⟨t.id_, decide (t.id_ ≠ Bs.zero 8), Bs.zero 16, t.hops1, t.hops0, false, t.has1, t.has0, Bs.zero 16, Bs.zero 16, Bs.zero 16, false, false, false⟩
theorem st_zero : stF PackTold.zero = Ref06State.zero := rfl
theorem st_has (t : PackTold) (a : Bs 16) : (stF t).has (kN a) = t.has (placeN a) := by unfold kN placeN; split <;> rfl
theorem st_hop (t : PackTold) (a : Bs 16) : (stF t).hop (kN a) = t.hop (placeN a) := by unfold kN placeN; split <;> rfl
theorem st_set (t : PackTold) (a v : Bs 16) (b : Bool) : ((stF t).setHop (kN a) v).setHas (kN a) b = stF ((t.setHop (placeN a) v).setHas (placeN a) b) := by unfold kN placeN; split <;> rfl
theorem st_id (t : PackTold) {v : Bs 8} (h : v ≠ Bs.zero 8) : ({ ({ stF t with id_ := v } : Ref06State) with hasId := true } : Ref06State) = stF { t with id_ := v } := by
  unfold stF
  simp [h]
theorem chk_id {t : Tlv} (h : checkF t = 0) (h8 : t.type = 8) (hm : t.metric ≠ 65535) : t.id_ ≠ Bs.zero 8 := by
  obtain ⟨_, _, _, _, h5, _⟩ := chk_own h
  intro hz
  rw [chk2_eq, hz] at h5
  simp [h8, hm] at h5

theorem rbegin6_spec (F : Fr) (a : Bs 16) : Spec Tryz.prog 46 #[.agg (Bs.enc a).toArray] [] F (fun v S => ∃ b, v = .pointer (some ⟨b, 0, none⟩) ∧ S = [blk b (Ref06State.enc (stF (toldB a))) 117]) := by
 have hk9 := kN_two a
 refine Spec.intro (N := 20) (args := [.agg (Bs.enc a).toArray]) Tryz.func46 rfl rfl (by simp) ?_
 refine Zs fun _ hk1 => Ef 0 E2 (EF.boxA rfl rfl) ?_
 rintro _ _ ⟨b1, rfl, rfl⟩
 refine Sg 1 E3 <| Zl hk1 <| Zs fun _ hk2 => Qp 0 E2 (QP.build (l := Ref06State.enc Ref06State.zero) rfl st117 rfl trivial rfl) <| Ef 1 E2 (EF.boxA rfl rfl) ?_
 rintro _ _ ⟨b5, rfl, rfl⟩
 refine Sg 2 E3 <| Zl hk2 <| Run.seq fun _ hk3 => Run.regionD (M := [0, 0, 2, 0, 1, 17, 63, 127]) (q := 123) (r := 10) Kr ?_
 refine Dp 0 E2 (Zm E2) <| Dr 1 E2 (Z0 E2 g23 (Bs.sub _)) ?_
 refine Dr 3 E2 (Z0 E2 g23 (Bs.sub _)) ?_
 refine Dp 4 E2 (Zn E2) <| Dp 5 E2 (Za E2 f117_2) <| De 2 <| Om [3] rfl rfl (EF.call rfl ce83 rfl Takes.nil (fun F' hle hr => (rae_spec F' a).mono (fun v S hv => (show v = .int .i64 ((kN a : Nat) : Int) ∧ S = [] from ⟨by rw [hv.1, kN_ae], hv.2⟩)))) ?_
 rintro _ _ ⟨_, ⟨rfl, rfl⟩, rfl⟩
 refine ⟨?_, ?_⟩
 ·rw [List.forall_mem_cons]
  refine ⟨?_, fun _ h => (by cases h)⟩
  ·refine Look.app ?_
   exact Look.mk rfl rfl rfl (Z0 E2 g23 (Bs.sub _))
 refine ?_
 refine J.app <| Dp 6 E2 (QP.indexArr rfl rfl rfl Tryz.underlying114 z23 (by omega) (by have := kN_two a; omega)) <| De 7 <| Oa [] rfl (EF.storeA rfl rfl rfl z23 (Ref06State.set_hop _ (kN_two a) a) (Bs.cell _)) ?_
 rintro _ _ rfl
 refine ⟨fun _ h => (by cases h), ?_⟩
 refine Dn <| hk3 _ _ <| Run.seq fun _ hk4 => Run.regionD (M := [0, 0, 2, 1, 9, 31, 63]) (q := 59) (r := 2) Kr ?_
 refine Dp 0 E2 (Zm E2) <| Dr 1 E2 (Z0 E2 g23 (Bs.sub _)) ?_
 refine Dp 3 E2 (Zn E2) <| Dp 4 E2 (Za E2 f117_3) <| De 2 <| Om [] rfl rfl (EF.call rfl ce83 rfl Takes.nil (fun F' hle hr => (rae_spec F' a).mono (fun v S hv => (show v = .int .i64 ((kN a : Nat) : Int) ∧ S = [] from ⟨by rw [hv.1, kN_ae], hv.2⟩)))) ?_
 rintro _ _ ⟨_, ⟨rfl, rfl⟩, rfl⟩
 refine ⟨fun _ h => (by cases h), ?_⟩
 refine J.app <| Dp 5 E2 (QP.indexArr rfl rfl rfl Tryz.underlying115 z4 (by omega) (by have := kN_two a; omega)) <| De 6 <| Oa [] rfl (EF.store rfl rfl rfl z4 (Ref06State.set_has _ (kN_two a) true) (cell_one rfl)) ?_
 rintro _ _ rfl
 refine ⟨fun _ h => (by cases h), ?_⟩
 refine Dn <| hk4 _ _ <| Zs fun _ hk5 => Mv 0 E3 <| Sg 1 E3 <| Zl hk5 <| Run.ret ?_
 rw [show (toldB a) = (PackTold.zero.setHop (placeN a) a).setHas (placeN a) true from rfl, ← st_set, st_zero]
 exact J.ends (res_tmp rfl rfl) Tk1 ⟨b5, rfl, rfl⟩

theorem rbegin7_spec (F : Fr) (a : Bs 16) : Spec Tryz.prog 21 #[.agg (Bs.enc a).toArray] [] F (fun v S => ∃ b bs, v = .pointer (some ⟨b, 0, none⟩) ∧ S = [blk b (Ref07Open.enc ⟨Slc.zero, some ⟨bs, 0, none⟩⟩) 69, slA 5 1 bytE (.slice none 0 0) [], blk bs (Ref06State.enc (stF (toldB a))) 117]) := by
 refine Spec.intro (N := 7) (args := [.agg (Bs.enc a).toArray]) Tryz.func21 rfl rfl (by simp) ?_
 refine Zs fun _ hk1 => Ef 0 E2 (EF.boxA rfl rfl) ?_
 rintro _ _ ⟨b1, rfl, rfl⟩
 refine Sg 1 E3 <| Zl hk1 <| Zs fun _ hk2 => Qq 0 E2 (Z0 E2 g23 (Bs.sub _)) ?_
 refine Ef 1 E2 (EF.call rfl ce46 rfl Takes.nil (fun F' hle hr => rbegin6_spec F' a)) ?_
 rintro _ _ ⟨_, ⟨bs, rfl, rfl⟩, rfl⟩
 refine J.app <| Qp 2 E2 (QP.build (l := Ref07Open.enc ⟨Slc.zero, some ⟨bs, 0, none⟩⟩) rfl st69 rfl (by exact ⟨rfl, trivial⟩) rfl) <| Ef 3 E2 (EF.boxA rfl rfl) ?_
 rintro _ _ ⟨b6, rfl, rfl⟩
 refine Sg 4 E3 <| Zl hk2 <| Run.ret <| J.addSl 5 1 bytE ?_
 exact J.ends (res_tmp rfl rfl) Tk3 ⟨b6, bs, rfl, rfl⟩

set_option maxHeartbeats 1000000 in
theorem front_core (F : Fr) {s : Ref06State} {t : Tlv} {b0 bs : Nat} {td : PackTold} {oa : Option Addr} {on oc : Nat} (hs0 : s = stF td) (hc0 : checkF t = 0)  : Spec Tryz.prog 47 #[.pointer (some ⟨b0, 0, none⟩), .agg (Tlv.enc t).toArray] [blk b0 (Ref07Open.enc ⟨⟨oa, on, oc⟩, some ⟨bs, 0, none⟩⟩) 69, blk bs (Ref06State.enc s) 117] F (fun v S => ∃ sv, v = .tuple #[sv, .agg (Ref06State.enc (stF (ahead td t).1)).toArray] ∧ S = [blk b0 (Ref07Open.enc ⟨⟨oa, on, oc⟩, some ⟨bs, 0, none⟩⟩) 69, blk bs (Ref06State.enc s) 117, slA 5 1 bytE sv (ahead td t).2]) := by
 refine Spec.intro (N := 101) (args := [.pointer (some ⟨b0, 0, none⟩), .agg (Tlv.enc t).toArray]) Tryz.func47 rfl rfl (by simp) ?_
 refine Zs fun _ hk1 => Ef 0 E2 (EF.boxA rfl rfl) ?_
 rintro _ _ ⟨b3, rfl, rfl⟩
 refine Sg 1 E3 <| Ef 2 E2 (EF.allocA (l := Ref06State.enc Ref06State.zero) rfl zero117) ?_
 rintro _ _ ⟨b5, rfl, rfl⟩
 refine Zl hk1 <| Zs fun _ hk2 => Mv 0 E3 <| Qp 1 E2 (Zn E2) <| Fa 2 E3 f69_1 <| Qq 3 E2 (Z1 E2 g67 (Ref07Open.sub_s _)) ?_
 refine Qp 4 E2 (Zn E2) <| Qq 5 E2 (Z0 E2 g117 (Ref06State.enc_sub _)) ?_
 refine Ef 6 E2 (EF.allocA (l := Ref06State.enc Ref06State.zero) rfl zero117) ?_
 rintro _ _ ⟨b6, rfl, rfl⟩
 refine Ac 7 rfl (EF.storeA rfl rfl rfl z117 (SetL.all (Ref06State.enc_len _) (Ref06State.enc_len _)) (Ref06State.enc_cell _)) ?_
 rintro _ _ rfl
 refine Zl hk2 <| Run.seq fun _ hk3 => Zs fun _ hk4 => Fa 0 E3 f45_0 <| Qq 1 E2 (Z1 E2 g5 (Tlv.sub_type _)) ?_
 refine Qp 2 E2 (Zq E3) <| J.caseD (fun c21 => ?_) (fun c21 => ?_)
 ·refine Mv 3 E3 <| Sk 4 E3 <| Sk 5 E3 <| Sk 6 E3 <| Pt 7 E4 <| Zl hk4 <| Zt <| Run.seq fun _ hk5 => Run.regionM (M := [0, 0, 3]) (q := 1) (r := 1) mixedT Kr ?_
  refine Dr 0 E2 (Z0 E2 g117 (Ref06State.enc_sub _)) ?_
  refine De 1 <| Om [0] rfl rfl ((Zg E2).eff) ?_
  rintro _ _ ⟨rfl, rfl⟩
  refine ⟨?_, ?_⟩
  ·rw [List.forall_mem_cons]
   refine ⟨?_, fun _ h => (by cases h)⟩
   ·exact Look.mk rfl rfl rfl (Z0 E2 g117 (Ref06State.enc_sub _))
  refine ?_
  refine De 2 <| Oa [] rfl (EF.storeA rfl rfl rfl z117 (SetL.all (Ref06State.enc_len _) (Ref06State.enc_len _)) (Ref06State.enc_cell _)) ?_
  rintro _ _ rfl
  refine ⟨fun _ h => (by cases h), ?_⟩
  refine Dn <| hk5 _ _ <| Run.ret ?_
  rw [show ahead td t = (td, []) from if_neg (by rintro ⟨h1, h2⟩; first | exact c21 h1 | exact h2 c25), ← hs0]
  refine J.addSl 5 1 bytE ?_
  exact J.ends (m := [blk b0 (Ref07Open.enc ⟨⟨oa, on, oc⟩, some ⟨bs, 0, none⟩⟩) 69, blk bs (Ref06State.enc s) 117, slA 5 1 bytE (.slice none 0 0) []]) (res_tc rfl rfl rfl g117 (Ref06State.enc_sub _)) Tk3 ⟨_, rfl, rfl⟩
 ·refine Mv 3 E3 <| Yf 4 E4 f45_5 <| Yq 5 E3 (Z1 E2 g36 (Tlv.sub_metric _)) ?_
  refine Yp 6 E3 (Ze E3) <| J.caseD (fun c25 => ?_) (fun c25 => ?_)
  ·refine Pf 7 E4 <| Zl hk4 <| Zt <| Run.seq fun _ hk6 => Run.regionM (M := [0, 0, 3]) (q := 1) (r := 1) mixedT Kr ?_
   refine Dr 0 E2 (Z0 E2 g117 (Ref06State.enc_sub _)) ?_
   refine De 1 <| Om [0] rfl rfl ((Zg E2).eff) ?_
   rintro _ _ ⟨rfl, rfl⟩
   refine ⟨?_, ?_⟩
   ·rw [List.forall_mem_cons]
    refine ⟨?_, fun _ h => (by cases h)⟩
    ·exact Look.mk rfl rfl rfl (Z0 E2 g117 (Ref06State.enc_sub _))
   refine ?_
   refine De 2 <| Oa [] rfl (EF.storeA rfl rfl rfl z117 (SetL.all (Ref06State.enc_len _) (Ref06State.enc_len _)) (Ref06State.enc_cell _)) ?_
   rintro _ _ rfl
   refine ⟨fun _ h => (by cases h), ?_⟩
   refine Dn <| hk6 _ _ <| Run.ret ?_
   rw [show ahead td t = (td, []) from if_neg (by rintro ⟨h1, h2⟩; first | exact c21 h1 | exact h2 c25), ← hs0]
   refine J.addSl 5 1 bytE ?_
   exact J.ends (m := [blk b0 (Ref07Open.enc ⟨⟨oa, on, oc⟩, some ⟨bs, 0, none⟩⟩) 69, blk bs (Ref06State.enc s) 117, slA 5 1 bytE (.slice none 0 0) []]) (res_tc rfl rfl rfl g117 (Ref06State.enc_sub _)) Tk3 ⟨_, rfl, rfl⟩
  ·refine Pf 7 E4 <| Zl hk4 <| Zf <| Run.skip <| hk3 _ _ <| Run.seq fun _ hk7 => Run.region ?_
   have h88 : t.type = 8 := Decidable.of_not_not c21
   have h65 : ¬ t.metric = 65535 := c25
   have hne := chk_id hc0 h88 h65
   have hA : ahead td t = ((add2 (add1 td t).1 t).1, (add1 td t).2 ++ (add2 (add1 td t).1 t).2) := if_pos ⟨h88, h65⟩
   refine Sg 0 E3 <| Zl hk7 <| Run.cut2 (fun (s1 : Ref06State) (Z : SlX) => s1 = stF (add1 td t).1 ∧ Z.l = (add1 td t).2 ∧ ahead td t = ((add2 (add1 td t).1 t).1, (add1 td t).2 ++ (add2 (add1 td t).1 t).2)) (fun s1 Z => .cons 3 (fp b3) (.cons 5 (fp b5) (.cons 6 (fp b6) (.cons 7 (.slice Z.a Z.n Z.c) (.nil))))) (fun s1 Z => [blk b0 (Ref07Open.enc ⟨⟨oa, on, oc⟩, some ⟨bs, 0, none⟩⟩) 69, blk bs (Ref06State.enc s) 117, blk b3 (Tlv.enc t) 45, blk b5 (Ref06State.enc Ref06State.zero) 117, blk b6 (Ref06State.enc s1) 117, slA 5 1 bytE (.slice Z.a Z.n Z.c) Z.l]) ?_ ?_
   ·rintro s1 Z ⟨hs1, hz1, hA⟩
    refine Zs fun _ hk9 => Sg 0 E3 <| Zl hk9 <| Run.cut1 (fun (k : Nat) => k = kN t.addr) (fun k => .cons 3 (fp b3) (.cons 5 (fp b5) (.cons 6 (fp b6) (.cons 7 (.slice Z.a Z.n Z.c) (.cons 10 (.int .i64 (k : Int)) (.nil)))))) (fun k => [blk b0 (Ref07Open.enc ⟨⟨oa, on, oc⟩, some ⟨bs, 0, none⟩⟩) 69, blk bs (Ref06State.enc s) 117, blk b3 (Tlv.enc t) 45, blk b5 (Ref06State.enc Ref06State.zero) 117, blk b6 (Ref06State.enc s1) 117, slA 5 1 bytE (.slice Z.a Z.n Z.c) Z.l]) ?_ ?_
    ·rintro k rfl
     refine Run.seq fun _ hk11 => Run.seq fun _ hk12 => Run.regionD (M := [0, 0, 3, 7, 15, 31, 63, 63, 255, 511, 63, 1087, 4095, 8191]) (q := 16383) (r := 2568) Kr ?_
     have hk9 := kN_two t.addr
     refine Dp 0 E2 (Zm E2) <| Dp 1 E2 (Za E2 f117_3) <| Dp 2 E2 (QP.indexArr rfl rfl rfl Tryz.underlying115 z4 (by omega) (by have := kN_two t.addr; omega)) <| Dr 3 E2 (Z1 E2 g4 (Ref06State.sub_has _ (kN_two t.addr))) ?_
     refine J.caseB (fun c66 => ?_) (fun c66 => ?_)
     ·refine Dp 4 E2 (Zu E2) <| Dp 5 E2 (Zm E2) <| Dy 6 E3 (Zm E2) <| Dy 7 E3 (Za E2 f117_2) <| Dy 8 E3 (QP.indexArr rfl rfl rfl Tryz.underlying114 z23 (by omega) (by have := kN_two t.addr; omega)) <| Dz 9 E3 (Z0 E2 g23 (Ref06State.sub_hop _ (kN_two t.addr))) ?_
      refine Dy 10 E3 (Za E2 f45_10) <| Dz 11 E3 (Z0 E2 g23 (Tlv.sub_addr _)) ?_
      refine Dy 12 E3 (QP.neq_agg eq23 rfl rfl rfl) <| J.caseD (fun c75 => ?_) (fun c75 => ?_)
      ·refine Dp 13 E2 (QP.pick_f rfl rfl rfl) <| Dn <| hk12 _ _ <| Zt <| Zs fun _ hk13 => Mv 0 E3 <| Fa 1 E3 f45_10 <| Qq 2 E2 (Z0 E2 g23 (Tlv.sub_addr _)) ?_
       refine Fa 3 E3 f117_2 <| Qp 4 E2 (QP.indexArr rfl rfl rfl Tryz.underlying114 z23 (by omega) (by have := kN_two t.addr; omega)) <| Ac 5 rfl (EF.storeA rfl rfl rfl z23 (Ref06State.set_hop _ (kN_two t.addr) _) (Bs.cell _)) ?_
       rintro _ _ rfl
       refine Zl hk13 <| Zs fun _ hk14 => Mv 0 E3 <| Fa 1 E3 f117_3 <| Qp 2 E2 (QP.indexArr rfl rfl rfl Tryz.underlying115 z4 (by omega) (by have := kN_two t.addr; omega)) <| Ac 3 rfl (EF.store rfl rfl rfl z4 (Ref06State.set_has _ (kN_two t.addr) true) (cell_one rfl)) ?_
       rintro _ _ rfl
       refine Zl hk14 <| Zs fun _ hk15 => Fa 0 E3 f45_10 <| Qq 1 E2 (Z0 E2 g23 (Tlv.sub_addr _)) ?_
       refine Ef 2 E2 (EF.call rfl ce30 rfl Takes.nil (fun F' hle hr => raddr_spec F' t.addr)) ?_
       rintro _ _ ⟨_, ⟨v88, rfl, rfl⟩, rfl⟩
       refine J.app <| Mv 3 E3 <| Qp 4 E2 (Zx E3) <| Sq.slCase (v := v88) (xs := (adF t.addr).2) Rc (fun a88 c88 hv88 hh88 => ?_)
       subst hv88
       refine Qp 5 E2 (Zx E3) <| Sg 6 E3 <| Sg 7 E3 <| Zl hk15 <| Run.region <| Mv 0 E3 <| Mv 1 E3 <| Ef 2 E2 (EF.buildSliceS rfl Tryz.underlying46 z5 zero5 rfl (by decide) rfl rfl rfl rfl) ?_
       rintro _ _ ⟨b93, rfl, rfl⟩
       refine J.close (A := slA 5 1 bytE (.slice (some ⟨b93, 0, none⟩) 2 2) [(adF t.addr).1, 0]) (m := [blk b93 [.int .u8 ((adF t.addr).1.toNat : Int), .int .u8 0] 5]) Tk1 (fun _ q => slA_blk (xs := [(adF t.addr).1, 0]) rfl q) ?_
       refine Mv 3 E3 <| Ef 4 E2 (EF.append (xs := [(adF t.addr).1, 0]) (ys := (adF t.addr).2) (enc := bytE) el5 (fun _ => rfl) (fun _ => cell_one rfl) rfl rfl rfl Tryz.underlying46 Tryz.underlying46 rfl rfl Rc (RowsAt.ownH (e := 23) (fun _ => rfl) hh88 (by repeat (first | exact List.Mem.head _ | apply List.Mem.tail))) (by have := ad_len t.addr; simp; omega)) ?_
       rintro sl95 _ rfl
       refine Sq.slCase (v := sl95) (xs := ([(adF t.addr).1, 0] ++ (adF t.addr).2)) Rc (fun a95 c95 hv95 hh95 => ?_)
       subst hv95
       refine Qp 5 E2 (QP.build (l := Raw.enc ⟨((7 : UInt8).toNat : Int), ⟨a95, (([(adF t.addr).1, 0] ++ (adF t.addr).2)).length, c95⟩⟩) rfl st81 rfl (by exact ⟨rfl, ⟨rfl, trivial⟩⟩) rfl) <| Ef 6 E2 (EF.call rfl ce32 rfl Tk1 (fun F' hle hr => Spec.lendSl (e := 5) (z := 1) (enc := bytE) (xs := ([(adF t.addr).1, 0] ++ (adF t.addr).2)) (fun _ => rfl) (fun F2 _ hb2 => rjoin_spec F2 7 (by decide) (by have := ad_len t.addr; simp only [List.length_append, List.length_cons, List.length_nil]; omega) hb2))) ?_
       rintro v97 _ ⟨_, ⟨_, rfl, rfl⟩, rfl⟩
       refine J.app <| Sq.slCase (v := v97) (xs := (rawF 7 ([(adF t.addr).1, 0] ++ (adF t.addr).2))) Rc (fun a97 c97 hv97 hh97 => ?_)
       subst hv97
       refine Ef 7 E2 (EF.append (xs := Z.l) (ys := rawF 7 ([(adF t.addr).1, 0] ++ (adF t.addr).2)) (enc := bytE) el5 (fun _ => rfl) (fun _ => cell_one rfl) rfl rfl rfl Tryz.underlying46 Tryz.underlying46 rfl rfl Rc (RowsAt.ownH (e := 5) (fun _ => rfl) hh97 (by repeat (first | exact List.Mem.head _ | apply List.Mem.tail))) (by have := add1_len td t; have := ad_len t.addr; rw [hz1, rawF_len]; simp; omega)) ?_
       rintro sl98 _ rfl
       refine Sg 8 E3 <| Zl hk11 <| Run.seq fun _ hk16 => Run.regionM (M := [0, 0, 1, 7]) (q := 3) (r := 2) mixedT Kr ?_
       refine Dp 0 E2 (Zm E2) <| Dr 1 E2 (Z0 E2 g117 (Ref06State.enc_sub _)) ?_
       refine De 2 <| Om [1] rfl rfl ((Zg E2).eff) ?_
       rintro sl98 _ ⟨rfl, rfl⟩
       refine ⟨?_, ?_⟩
       ·rw [List.forall_mem_cons]
        refine ⟨?_, fun _ h => (by cases h)⟩
        ·exact Look.mk rfl rfl rfl (Z0 E2 g117 (Ref06State.enc_sub _))
       refine ?_
       refine De 3 <| Oa [] rfl (EF.storeA rfl rfl rfl z117 (SetL.all (Ref06State.enc_len _) (Ref06State.enc_len _)) (Ref06State.enc_cell _)) ?_
       rintro _ _ rfl
       refine ⟨fun _ h => (by cases h), ?_⟩
       refine Dn <| hk16 _ _ <| Run.ret ?_
       rw [hA, show add2 (add1 td t).1 t = (((add1 td t).1.setHop (placeN t.addr) t.addr).setHas (placeN t.addr) true, rawF 7 ([(adF t.addr).1, 0] ++ (adF t.addr).2)) from if_neg (by rintro ⟨h1, h2⟩; first | (rw [hs1, st_hop] at c75; exact c75 h2) | (rw [hs1, st_has, h1] at c66; cases c66))]
       rw [← hz1, ← st_set, ← hs1]
       exact J.ends (m := [blk b0 (Ref07Open.enc ⟨⟨oa, on, oc⟩, some ⟨bs, 0, none⟩⟩) 69, blk bs (Ref06State.enc s) 117, slA 5 1 bytE sl98 (Z.l ++ rawF 7 ([(adF t.addr).1, 0] ++ (adF t.addr).2))]) (res_tc rfl rfl rfl g117 (Ref06State.enc_sub _)) Tk3 ⟨_, rfl, rfl⟩
      ·refine Dp 13 E2 (QP.pick_f rfl rfl rfl) <| Dn <| hk12 _ _ <| Zf <| Run.skip <| hk11 _ _ <| Run.seq fun _ hk17 => Run.regionM (M := [0, 0, 1, 7]) (q := 3) (r := 2) mixedT Kr ?_
       refine Dp 0 E2 (Zm E2) <| Dr 1 E2 (Z0 E2 g117 (Ref06State.enc_sub _)) ?_
       refine De 2 <| Om [1] rfl rfl ((Zg E2).eff) ?_
       rintro _ _ ⟨rfl, rfl⟩
       refine ⟨?_, ?_⟩
       ·rw [List.forall_mem_cons]
        refine ⟨?_, fun _ h => (by cases h)⟩
        ·exact Look.mk rfl rfl rfl (Z0 E2 g117 (Ref06State.enc_sub _))
       refine ?_
       refine De 3 <| Oa [] rfl (EF.storeA rfl rfl rfl z117 (SetL.all (Ref06State.enc_len _) (Ref06State.enc_len _)) (Ref06State.enc_cell _)) ?_
       rintro _ _ rfl
       refine ⟨fun _ h => (by cases h), ?_⟩
       refine Dn <| hk17 _ _ <| Run.ret ?_
       rw [hA, show add2 (add1 td t).1 t = ((add1 td t).1, []) from if_pos ⟨by rw [← st_has, ← hs1]; exact c66, by rw [← st_hop, ← hs1]; exact Decidable.of_not_not c75⟩]
       rw [← hz1, List.append_nil, ← hs1]
       exact J.ends (m := [blk b0 (Ref07Open.enc ⟨⟨oa, on, oc⟩, some ⟨bs, 0, none⟩⟩) 69, blk bs (Ref06State.enc s) 117, slA 5 1 bytE (.slice Z.a Z.n Z.c) Z.l]) (res_tc rfl rfl rfl g117 (Ref06State.enc_sub _)) Tk3 ⟨_, rfl, rfl⟩
     ·refine Dp 4 E2 (Zu E2) <| Dp 5 E2 (Zm E2) <| Ds 6 E3 <| Ds 7 E3 <| Ds 8 E3 <| Ds 9 E3 <| Ds 10 E3 <| Ds 11 E3 <| Ds 12 E3 <| Dp 13 E2 (QP.pick_t rfl rfl rfl) <| Dn <| hk12 _ _ <| Zt <| Zs fun _ hk18 => Mv 0 E3 <| Fa 1 E3 f45_10 <| Qq 2 E2 (Z0 E2 g23 (Tlv.sub_addr _)) ?_
      refine Fa 3 E3 f117_2 <| Qp 4 E2 (QP.indexArr rfl rfl rfl Tryz.underlying114 z23 (by omega) (by have := kN_two t.addr; omega)) <| Ac 5 rfl (EF.storeA rfl rfl rfl z23 (Ref06State.set_hop _ (kN_two t.addr) _) (Bs.cell _)) ?_
      rintro _ _ rfl
      refine Zl hk18 <| Zs fun _ hk19 => Mv 0 E3 <| Fa 1 E3 f117_3 <| Qp 2 E2 (QP.indexArr rfl rfl rfl Tryz.underlying115 z4 (by omega) (by have := kN_two t.addr; omega)) <| Ac 3 rfl (EF.store rfl rfl rfl z4 (Ref06State.set_has _ (kN_two t.addr) true) (cell_one rfl)) ?_
      rintro _ _ rfl
      refine Zl hk19 <| Zs fun _ hk20 => Fa 0 E3 f45_10 <| Qq 1 E2 (Z0 E2 g23 (Tlv.sub_addr _)) ?_
      refine Ef 2 E2 (EF.call rfl ce30 rfl Takes.nil (fun F' hle hr => raddr_spec F' t.addr)) ?_
      rintro _ _ ⟨_, ⟨v88, rfl, rfl⟩, rfl⟩
      refine J.app <| Mv 3 E3 <| Qp 4 E2 (Zx E3) <| Sq.slCase (v := v88) (xs := (adF t.addr).2) Rc (fun a88 c88 hv88 hh88 => ?_)
      subst hv88
      refine Qp 5 E2 (Zx E3) <| Sg 6 E3 <| Sg 7 E3 <| Zl hk20 <| Run.region <| Mv 0 E3 <| Mv 1 E3 <| Ef 2 E2 (EF.buildSliceS rfl Tryz.underlying46 z5 zero5 rfl (by decide) rfl rfl rfl rfl) ?_
      rintro _ _ ⟨b93, rfl, rfl⟩
      refine J.close (A := slA 5 1 bytE (.slice (some ⟨b93, 0, none⟩) 2 2) [(adF t.addr).1, 0]) (m := [blk b93 [.int .u8 ((adF t.addr).1.toNat : Int), .int .u8 0] 5]) Tk1 (fun _ q => slA_blk (xs := [(adF t.addr).1, 0]) rfl q) ?_
      refine Mv 3 E3 <| Ef 4 E2 (EF.append (xs := [(adF t.addr).1, 0]) (ys := (adF t.addr).2) (enc := bytE) el5 (fun _ => rfl) (fun _ => cell_one rfl) rfl rfl rfl Tryz.underlying46 Tryz.underlying46 rfl rfl Rc (RowsAt.ownH (e := 23) (fun _ => rfl) hh88 (by repeat (first | exact List.Mem.head _ | apply List.Mem.tail))) (by have := ad_len t.addr; simp; omega)) ?_
      rintro sl95 _ rfl
      refine Sq.slCase (v := sl95) (xs := ([(adF t.addr).1, 0] ++ (adF t.addr).2)) Rc (fun a95 c95 hv95 hh95 => ?_)
      subst hv95
      refine Qp 5 E2 (QP.build (l := Raw.enc ⟨((7 : UInt8).toNat : Int), ⟨a95, (([(adF t.addr).1, 0] ++ (adF t.addr).2)).length, c95⟩⟩) rfl st81 rfl (by exact ⟨rfl, ⟨rfl, trivial⟩⟩) rfl) <| Ef 6 E2 (EF.call rfl ce32 rfl Tk1 (fun F' hle hr => Spec.lendSl (e := 5) (z := 1) (enc := bytE) (xs := ([(adF t.addr).1, 0] ++ (adF t.addr).2)) (fun _ => rfl) (fun F2 _ hb2 => rjoin_spec F2 7 (by decide) (by have := ad_len t.addr; simp only [List.length_append, List.length_cons, List.length_nil]; omega) hb2))) ?_
      rintro v97 _ ⟨_, ⟨_, rfl, rfl⟩, rfl⟩
      refine J.app <| Sq.slCase (v := v97) (xs := (rawF 7 ([(adF t.addr).1, 0] ++ (adF t.addr).2))) Rc (fun a97 c97 hv97 hh97 => ?_)
      subst hv97
      refine Ef 7 E2 (EF.append (xs := Z.l) (ys := rawF 7 ([(adF t.addr).1, 0] ++ (adF t.addr).2)) (enc := bytE) el5 (fun _ => rfl) (fun _ => cell_one rfl) rfl rfl rfl Tryz.underlying46 Tryz.underlying46 rfl rfl Rc (RowsAt.ownH (e := 5) (fun _ => rfl) hh97 (by repeat (first | exact List.Mem.head _ | apply List.Mem.tail))) (by have := add1_len td t; have := ad_len t.addr; rw [hz1, rawF_len]; simp; omega)) ?_
      rintro sl98 _ rfl
      refine Sg 8 E3 <| Zl hk11 <| Run.seq fun _ hk21 => Run.regionM (M := [0, 0, 1, 7]) (q := 3) (r := 2) mixedT Kr ?_
      refine Dp 0 E2 (Zm E2) <| Dr 1 E2 (Z0 E2 g117 (Ref06State.enc_sub _)) ?_
      refine De 2 <| Om [1] rfl rfl ((Zg E2).eff) ?_
      rintro sl98 _ ⟨rfl, rfl⟩
      refine ⟨?_, ?_⟩
      ·rw [List.forall_mem_cons]
       refine ⟨?_, fun _ h => (by cases h)⟩
       ·exact Look.mk rfl rfl rfl (Z0 E2 g117 (Ref06State.enc_sub _))
      refine ?_
      refine De 3 <| Oa [] rfl (EF.storeA rfl rfl rfl z117 (SetL.all (Ref06State.enc_len _) (Ref06State.enc_len _)) (Ref06State.enc_cell _)) ?_
      rintro _ _ rfl
      refine ⟨fun _ h => (by cases h), ?_⟩
      refine Dn <| hk21 _ _ <| Run.ret ?_
      rw [hA, show add2 (add1 td t).1 t = (((add1 td t).1.setHop (placeN t.addr) t.addr).setHas (placeN t.addr) true, rawF 7 ([(adF t.addr).1, 0] ++ (adF t.addr).2)) from if_neg (by rintro ⟨h1, h2⟩; first | (rw [hs1, st_hop] at c75; exact c75 h2) | (rw [hs1, st_has, h1] at c66; cases c66))]
      rw [← hz1, ← st_set, ← hs1]
      exact J.ends (m := [blk b0 (Ref07Open.enc ⟨⟨oa, on, oc⟩, some ⟨bs, 0, none⟩⟩) 69, blk bs (Ref06State.enc s) 117, slA 5 1 bytE sl98 (Z.l ++ rawF 7 ([(adF t.addr).1, 0] ++ (adF t.addr).2))]) (res_tc rfl rfl rfl g117 (Ref06State.enc_sub _)) Tk3 ⟨_, rfl, rfl⟩
    ·intro ku10 hu10
     refine Zs fun _ hk22 => Fa 0 E3 f45_10 <| Qq 1 E2 (Z0 E2 g23 (Tlv.sub_addr _)) ?_
     refine Ef 2 E2 (EF.call rfl ce44 rfl Takes.nil (fun F' hle hr => rfamily_spec F' t.addr)) ?_
     rintro _ _ ⟨_, ⟨rfl, rfl⟩, rfl⟩
     refine J.app <| Qp 3 E2 (Ze E3) <| J.caseD (fun c62 => ?_) (fun c62 => ?_)
     ·exact Zl hk22 <| Zt <| Run.region <| Sg 0 E3 <| Sq.nil <| J.envJ (J.keep Tk6 (hu10 (1) (by unfold kN; rw [if_pos c62]))) ⟨rfl, rfl, rfl, rfl, rfl, trivial⟩
     ·exact Zl hk22 <| Zf <| Run.skip <| J.envJ (J.keep Tk6 (hu10 (2) (by unfold kN; rw [if_neg c62]))) ⟨rfl, rfl, rfl, rfl, rfl, trivial⟩
   ·intro ku8 hu8
    refine Zs fun _ hk23 => Fa 0 E3 f117_1 <| Qq 1 E2 (Z1 E2 g4 (Ref06State.sub_hasId _)) ?_
    refine J.caseB (fun c29 => ?_) (fun c29 => ?_)
    ·refine Qp 2 E2 (Zu E2) <| Mv 3 E3 <| Yf 4 E4 f117_0 <| Yq 5 E3 (Z0 E2 g38 (Ref06State.sub_id_ _)) ?_
     refine Yf 6 E4 f45_9 <| Yq 7 E3 (Z0 E2 g38 (Tlv.sub_id_ _)) ?_
     refine Yp 8 E3 (QP.neq_agg eq38 rfl rfl rfl) <| J.caseD (fun c36 => ?_) (fun c36 => ?_)
     ·refine Pf 9 E4 <| Zl hk23 <| Zt <| Run.seq fun _ hk24 => Run.region ?_
      have hadd : add1 td t = ({ td with id_ := t.id_ }, rawF 6 ([0, 0] ++ t.id_.l)) := if_neg (by intro h9; exact c36 (by rw [hs0]; exact h9))
      refine Fa 0 E3 f45_9 <| Qq 1 E2 (Z0 E2 g38 (Tlv.sub_id_ _)) ?_
      refine Fa 2 E3 f117_0 <| Ac 3 rfl (EF.storeA rfl rfl rfl z38 (Ref06State.set_id_ _ _) (Bs.cell _)) ?_
      rintro _ _ rfl
      refine Zl hk24 <| Zs fun _ hk25 => Fa 0 E3 f117_1 <| Ac 1 rfl (EF.store rfl rfl rfl z4 (Ref06State.set_hasId _ _) (cell_one rfl)) ?_
      rintro _ _ rfl
      refine Zl hk25 <| Zs fun _ hk26 => Ef 0 E2 (EF.buildSliceS rfl Tryz.underlying46 z5 zero5 rfl (by decide) rfl rfl rfl rfl) ?_
      rintro _ _ ⟨b42, rfl, rfl⟩
      refine J.close (A := slA 5 1 bytE (.slice (some ⟨b42, 0, none⟩) 2 2) [0, 0]) (m := [blk b42 [.int .u8 0, .int .u8 0] 5]) Tk1 (fun _ q => slA_blk (xs := [0, 0]) rfl q) ?_
      refine Sg 1 E3 <| Zl hk26 <| Run.seq fun _ hk27 => Zs fun _ hk28 => Sg 0 E3 <| Zl hk28 <| Run.block <| Run.loop3 (fun (i : Nat) (vi : Value) (zi : List UInt8) => i ≤ 8 ∧ zi = [0, 0] ++ t.id_.l.take i) (fun i vi zi => .cons 3 (fp b3) (.cons 5 (fp b5) (.cons 6 (fp b6) (.cons 7 (.slice none 0 0) (.cons 8 (vi) (.cons 9 (.int .i64 i) (.nil))))))) (fun i vi zi => [slA 5 1 bytE vi zi, blk b0 (Ref07Open.enc ⟨⟨oa, on, oc⟩, some ⟨bs, 0, none⟩⟩) 69, blk bs (Ref06State.enc s) 117, blk b3 (Tlv.enc t) 45, blk b5 (Ref06State.enc Ref06State.zero) 117, blk b6 (Ref06State.enc ({ ({ s with id_ := t.id_ } : Ref06State) with hasId := true } : Ref06State)) 117]) (fun i vi zi => 8 - i) (0) (.slice (some ⟨b42, 0, none⟩) 2 2) ([0, 0]) (⟨by decide, by rw [List.take_zero, List.append_nil]⟩) ?_ ?_
      ·exact fun _ j => J.envJ (J.keep Tk6 j) ⟨rfl, rfl, rfl, rfl, rfl, rfl, trivial⟩
      rintro i vi zi ⟨hi8, hzi⟩ kl29 hl29
      refine Run.seq fun _ hk30 => Zs fun _ hk31 => Mv 0 E3 <| Qp 1 E2 (Zb E3) <| J.caseD (fun c44 => ?_) (fun c44 => ?_)
      ·refine Zl hk31 <| Zt <| Run.skip <| hk30 _ _ <| Run.seq fun _ hk32 => Run.block <| Run.region ?_
       obtain ⟨cb, hcb⟩ : ∃ c, t.id_.l[i]? = some c := ⟨_, List.getElem?_eq_getElem (by rw [t.id_.h]; omega)⟩
       have hzl : zi.length ≤ 100 := by rw [hzi]; simp; omega
       refine Mv 0 E3 <| Mv 1 E3 <| Fa 2 E3 f45_9 <| Qp 3 E2 (QP.indexArr rfl rfl rfl Tryz.underlying38 z5 Og Og) <| Qq 4 E2 (Z1 E2 g5 (SubL.trans (Tlv.sub_id_ _) (Bs.subAt _ hcb (by simp)))) ?_
       refine Ef 5 E2 (EF.buildSliceS rfl Tryz.underlying46 z5 zero5 rfl (by decide) rfl rfl rfl rfl) ?_
       rintro _ _ ⟨b52, rfl, rfl⟩
       refine Ef 6 E2 (EF.append1 (xs := zi) (s := cb) (enc := bytE) el5 (fun _ => rfl) (fun _ => cell_one rfl) rfl rfl rfl Tryz.underlying46 Tryz.underlying46 rfl rfl Rc Rc (by first | omega | (simp only [List.length_append]; omega))) ?_
       rintro sl53 _ rfl
       exact Sg 7 E3 <| Zl hk32 <| Run.region <| Mv 0 E3 <| Qp 1 E2 (QP.add64 rfl rfl rfl Og Og) <| Sg 2 E3 <| Sq.nil <| J.envJ (J.keep Tk6 (hl29 (i + 1) (sl53) (zi ++ [cb]) (⟨by omega, by rw [hzi, take_succ_get hcb, List.append_assoc]⟩) (by omega))) ⟨rfl, rfl, rfl, rfl, rfl, rfl, trivial⟩
      ·refine Zl hk31 <| Zf <| Run.exit rfl <| hk27 _ _ <| Run.region ?_
       have hzf : zi = ([0, 0] ++ t.id_.l) := by rw [hzi, List.take_of_length_le (by rw [t.id_.h]; omega)]
       subst hzf
       refine Sq.slCase (v := vi) (xs := ([0, 0] ++ t.id_.l)) Rc (fun ax cx hvx hhx => ?_)
       subst hvx
       refine Mv 0 E3 <| Mv 1 E3 <| Qp 2 E2 (QP.build (l := Raw.enc ⟨((6 : UInt8).toNat : Int), ⟨ax, (([0, 0] ++ t.id_.l)).length, cx⟩⟩) rfl st81 rfl (by exact ⟨rfl, ⟨rfl, trivial⟩⟩) rfl) ?_
       have hI0 : ([0, 0] ++ t.id_.l).length ≤ 255 := by simp [t.id_.h]
       refine Ef 3 E2 (EF.call rfl ce32 rfl Tk1 (fun F' hle hr => Spec.lendSl (e := 5) (z := 1) (enc := bytE) (xs := ([0, 0] ++ t.id_.l)) (fun _ => rfl) (fun F2 _ hb2 => rjoin_spec F2 6 (by decide) (hI0) hb2))) ?_
       rintro v57 _ ⟨_, ⟨_, rfl, rfl⟩, rfl⟩
       refine J.app <| Sq.slCase (v := v57) (xs := (rawF 6 ([0, 0] ++ t.id_.l))) Rc (fun a57 c57 hv57 hh57 => ?_)
       subst hv57
       refine J.addSl 5 1 bytE ?_
       refine Ef 4 E2 (EF.append (xs := []) (ys := rawF 6 ([0, 0] ++ t.id_.l)) (enc := bytE) el5 (fun _ => rfl) (fun _ => cell_one rfl) rfl rfl rfl Tryz.underlying46 Tryz.underlying46 rfl rfl Rc (RowsAt.ownH (e := 5) (fun _ => rfl) hh57 (by repeat (first | exact List.Mem.head _ | apply List.Mem.tail))) (by rw [rawF_len]; simp [t.id_.h])) ?_
       rintro sl58 _ rfl
       refine Sq.slCase (v := sl58) (xs := ([] ++ rawF 6 ([0, 0] ++ t.id_.l))) Rc (fun a58 c58 hv58 hh58 => ?_)
       subst hv58
       exact Sg 5 E3 <| Sq.nil <| J.envJ (J.keep Tk6 (hu8 (_) (⟨a58, _, c58, [] ++ rawF 6 ([0, 0] ++ t.id_.l), rfl⟩) (⟨(by rw [hadd, hs0]; exact st_id td hne), by rw [hadd]; rfl, hA⟩))) ⟨rfl, rfl, rfl, rfl, trivial⟩
     ·refine Pf 9 E4 <| Zl hk23 <| Zf <| Run.skip ?_
      have hadd : add1 td t = (td, []) := if_pos (by have h9 := Decidable.of_not_not c36; rw [hs0] at h9; exact h9)
      refine J.addSl 5 1 bytE ?_
      exact J.envJ (J.keep Tk6 (hu8 (_) (⟨none, 0, 0, [], rfl⟩) (⟨(by rw [hadd]; exact hs0), by rw [hadd], hA⟩))) ⟨rfl, rfl, rfl, rfl, trivial⟩
    ·refine Qp 2 E2 (Zu E2) <| Mv 3 E3 <| Sk 4 E3 <| Sk 5 E3 <| Sk 6 E3 <| Sk 7 E3 <| Sk 8 E3 <| Pt 9 E4 <| Zl hk23 <| Zt <| Run.seq fun _ hk33 => Run.region ?_
     have hadd : add1 td t = ({ td with id_ := t.id_ }, rawF 6 ([0, 0] ++ t.id_.l)) := if_neg (by intro h9; have h7 : (decide (td.id_ ≠ Bs.zero 8)) = false := (by rw [hs0] at c29; exact c29); rw [h9] at h7; simp [hne] at h7)
     refine Fa 0 E3 f45_9 <| Qq 1 E2 (Z0 E2 g38 (Tlv.sub_id_ _)) ?_
     refine Fa 2 E3 f117_0 <| Ac 3 rfl (EF.storeA rfl rfl rfl z38 (Ref06State.set_id_ _ _) (Bs.cell _)) ?_
     rintro _ _ rfl
     refine Zl hk33 <| Zs fun _ hk34 => Fa 0 E3 f117_1 <| Ac 1 rfl (EF.store rfl rfl rfl z4 (Ref06State.set_hasId _ _) (cell_one rfl)) ?_
     rintro _ _ rfl
     refine Zl hk34 <| Zs fun _ hk35 => Ef 0 E2 (EF.buildSliceS rfl Tryz.underlying46 z5 zero5 rfl (by decide) rfl rfl rfl rfl) ?_
     rintro _ _ ⟨b42, rfl, rfl⟩
     refine J.close (A := slA 5 1 bytE (.slice (some ⟨b42, 0, none⟩) 2 2) [0, 0]) (m := [blk b42 [.int .u8 0, .int .u8 0] 5]) Tk1 (fun _ q => slA_blk (xs := [0, 0]) rfl q) ?_
     refine Sg 1 E3 <| Zl hk35 <| Run.seq fun _ hk36 => Zs fun _ hk37 => Sg 0 E3 <| Zl hk37 <| Run.block <| Run.loop3 (fun (i : Nat) (vi : Value) (zi : List UInt8) => i ≤ 8 ∧ zi = [0, 0] ++ t.id_.l.take i) (fun i vi zi => .cons 3 (fp b3) (.cons 5 (fp b5) (.cons 6 (fp b6) (.cons 7 (.slice none 0 0) (.cons 8 (vi) (.cons 9 (.int .i64 i) (.nil))))))) (fun i vi zi => [slA 5 1 bytE vi zi, blk b0 (Ref07Open.enc ⟨⟨oa, on, oc⟩, some ⟨bs, 0, none⟩⟩) 69, blk bs (Ref06State.enc s) 117, blk b3 (Tlv.enc t) 45, blk b5 (Ref06State.enc Ref06State.zero) 117, blk b6 (Ref06State.enc ({ ({ s with id_ := t.id_ } : Ref06State) with hasId := true } : Ref06State)) 117]) (fun i vi zi => 8 - i) (0) (.slice (some ⟨b42, 0, none⟩) 2 2) ([0, 0]) (⟨by decide, by rw [List.take_zero, List.append_nil]⟩) ?_ ?_
     ·exact fun _ j => J.envJ (J.keep Tk6 j) ⟨rfl, rfl, rfl, rfl, rfl, rfl, trivial⟩
     rintro i vi zi ⟨hi8, hzi⟩ kl38 hl38
     refine Run.seq fun _ hk39 => Zs fun _ hk40 => Mv 0 E3 <| Qp 1 E2 (Zb E3) <| J.caseD (fun c44 => ?_) (fun c44 => ?_)
     ·refine Zl hk40 <| Zt <| Run.skip <| hk39 _ _ <| Run.seq fun _ hk41 => Run.block <| Run.region ?_
      obtain ⟨cb, hcb⟩ : ∃ c, t.id_.l[i]? = some c := ⟨_, List.getElem?_eq_getElem (by rw [t.id_.h]; omega)⟩
      have hzl : zi.length ≤ 100 := by rw [hzi]; simp; omega
      refine Mv 0 E3 <| Mv 1 E3 <| Fa 2 E3 f45_9 <| Qp 3 E2 (QP.indexArr rfl rfl rfl Tryz.underlying38 z5 Og Og) <| Qq 4 E2 (Z1 E2 g5 (SubL.trans (Tlv.sub_id_ _) (Bs.subAt _ hcb (by simp)))) ?_
      refine Ef 5 E2 (EF.buildSliceS rfl Tryz.underlying46 z5 zero5 rfl (by decide) rfl rfl rfl rfl) ?_
      rintro _ _ ⟨b52, rfl, rfl⟩
      refine Ef 6 E2 (EF.append1 (xs := zi) (s := cb) (enc := bytE) el5 (fun _ => rfl) (fun _ => cell_one rfl) rfl rfl rfl Tryz.underlying46 Tryz.underlying46 rfl rfl Rc Rc (by first | omega | (simp only [List.length_append]; omega))) ?_
      rintro sl53 _ rfl
      exact Sg 7 E3 <| Zl hk41 <| Run.region <| Mv 0 E3 <| Qp 1 E2 (QP.add64 rfl rfl rfl Og Og) <| Sg 2 E3 <| Sq.nil <| J.envJ (J.keep Tk6 (hl38 (i + 1) (sl53) (zi ++ [cb]) (⟨by omega, by rw [hzi, take_succ_get hcb, List.append_assoc]⟩) (by omega))) ⟨rfl, rfl, rfl, rfl, rfl, rfl, trivial⟩
     ·refine Zl hk40 <| Zf <| Run.exit rfl <| hk36 _ _ <| Run.region ?_
      have hzf : zi = ([0, 0] ++ t.id_.l) := by rw [hzi, List.take_of_length_le (by rw [t.id_.h]; omega)]
      subst hzf
      refine Sq.slCase (v := vi) (xs := ([0, 0] ++ t.id_.l)) Rc (fun ax cx hvx hhx => ?_)
      subst hvx
      refine Mv 0 E3 <| Mv 1 E3 <| Qp 2 E2 (QP.build (l := Raw.enc ⟨((6 : UInt8).toNat : Int), ⟨ax, (([0, 0] ++ t.id_.l)).length, cx⟩⟩) rfl st81 rfl (by exact ⟨rfl, ⟨rfl, trivial⟩⟩) rfl) ?_
      have hI0 : ([0, 0] ++ t.id_.l).length ≤ 255 := by simp [t.id_.h]
      refine Ef 3 E2 (EF.call rfl ce32 rfl Tk1 (fun F' hle hr => Spec.lendSl (e := 5) (z := 1) (enc := bytE) (xs := ([0, 0] ++ t.id_.l)) (fun _ => rfl) (fun F2 _ hb2 => rjoin_spec F2 6 (by decide) (hI0) hb2))) ?_
      rintro v57 _ ⟨_, ⟨_, rfl, rfl⟩, rfl⟩
      refine J.app <| Sq.slCase (v := v57) (xs := (rawF 6 ([0, 0] ++ t.id_.l))) Rc (fun a57 c57 hv57 hh57 => ?_)
      subst hv57
      refine J.addSl 5 1 bytE ?_
      refine Ef 4 E2 (EF.append (xs := []) (ys := rawF 6 ([0, 0] ++ t.id_.l)) (enc := bytE) el5 (fun _ => rfl) (fun _ => cell_one rfl) rfl rfl rfl Tryz.underlying46 Tryz.underlying46 rfl rfl Rc (RowsAt.ownH (e := 5) (fun _ => rfl) hh57 (by repeat (first | exact List.Mem.head _ | apply List.Mem.tail))) (by rw [rawF_len]; simp [t.id_.h])) ?_
      rintro sl58 _ rfl
      refine Sq.slCase (v := sl58) (xs := ([] ++ rawF 6 ([0, 0] ++ t.id_.l))) Rc (fun a58 c58 hv58 hh58 => ?_)
      subst hv58
      exact Sg 5 E3 <| Sq.nil <| J.envJ (J.keep Tk6 (hu8 (_) (⟨a58, _, c58, [] ++ rawF 6 ([0, 0] ++ t.id_.l), rfl⟩) (⟨(by rw [hadd, hs0]; exact st_id td hne), by rw [hadd]; rfl, hA⟩))) ⟨rfl, rfl, rfl, rfl, trivial⟩

theorem front_spec (F : Fr) {t : Tlv} {b0 bs : Nat} {td : PackTold} {oa : Option Addr} {on oc : Nat} (hc0 : checkF t = 0) : Spec Tryz.prog 47 #[.pointer (some ⟨b0, 0, none⟩), .agg (Tlv.enc t).toArray] [blk b0 (Ref07Open.enc ⟨⟨oa, on, oc⟩, some ⟨bs, 0, none⟩⟩) 69, blk bs (Ref06State.enc (stF td)) 117] F (fun v S => ∃ sv, v = .tuple #[sv, .agg (Ref06State.enc (stF (ahead td t).1)).toArray] ∧ S = [blk b0 (Ref07Open.enc ⟨⟨oa, on, oc⟩, some ⟨bs, 0, none⟩⟩) 69, blk bs (Ref06State.enc (stF td)) 117, slA 5 1 bytE sv (ahead td t).2]) := front_core F (s := stF td) rfl hc0
end Slb
