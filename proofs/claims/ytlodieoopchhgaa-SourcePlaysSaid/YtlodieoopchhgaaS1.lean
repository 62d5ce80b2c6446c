/- S1: a part of the proof that a law of this package holds for every input; no condition. -/
import Derived.Test.YtlodieoopchhgaaB13
namespace Slb
open Go
structure Prefix where
  a : Bs 16
  len : I64
deriving DecidableEq
namespace Prefix
def enc (x : Prefix) : List Value := [x.a.enc, [I64.v x.len]].flatten
/-- Its numbers are numbers of their kinds. -/
def WF (x : Prefix) : Prop := True ∧ True
theorem enc_len (x : Prefix) : x.enc.length = 17 := by simp [enc, Bs.len]
theorem enc_sub (x : Prefix) : SubL x.enc 0 17 x.enc := by have := SubL.all x.enc; rwa [enc_len] at this
theorem sub_a (x : Prefix) : SubL x.enc 0 16 (x.a.enc) := by have := seg_sub (segs := [x.a.enc, [I64.v x.len]]) (i := 0) rfl; simpa [enc, lens, Bs.len] using this
theorem set_a (x : Prefix) (v : Bs 16) : SetL x.enc 0 16 (v.enc) ({ x with a := v } : Prefix).enc := by have := seg_set (segs := [x.a.enc, [I64.v x.len]]) (i := 0) (s := v.enc) rfl (by simp [Bs.len]); simpa [enc, lens, Bs.len] using this
theorem sub_len (x : Prefix) : SubL x.enc 16 1 ([I64.v x.len]) := by have := seg_sub (segs := [x.a.enc, [I64.v x.len]]) (i := 1) rfl; simpa [enc, lens, Bs.len] using this
theorem set_len (x : Prefix) (v : I64) : SetL x.enc 16 1 ([I64.v v]) ({ x with len := v } : Prefix).enc := by have := seg_set (segs := [x.a.enc, [I64.v x.len]]) (i := 1) (s := [I64.v v]) rfl (by simp [Bs.len]); simpa [enc, lens, Bs.len] using this
theorem enc_cell (x : Prefix) : ∀ v ∈ x.enc, Value.cellB v = true := cells_flatten (cells_cons (Bs.cell x.a) (cells_cons (cell_one rfl) cells_nil))
def zero : Prefix := ⟨(Bs.zero 16), (⟨0, by omega⟩ : I64)⟩
def segs : List (List Value) := [zero.a.enc, [I64.v zero.len]]
theorem enc_inj {x y : Prefix} (h0 : x.enc = y.enc) : x = y := by
  obtain ⟨a0, a1⟩ := x
  obtain ⟨b0, b1⟩ := y
  simp only [enc, List.flatten_cons, List.flatten_nil, List.append_nil] at h0
  obtain ⟨e0, h1⟩ := List.append_inj h0 (by rw [Bs.len, Bs.len])
  obtain rfl := Bs.enc_inj e0
  obtain rfl := I64.inj (by simpa using h1)
  rfl
end Prefix
structure Pair where
  dst : Prefix
  src : Prefix
deriving DecidableEq
namespace Pair
def enc (x : Pair) : List Value := [x.dst.enc, x.src.enc].flatten
/-- Its numbers are numbers of their kinds. -/
def WF (x : Pair) : Prop := x.dst.WF ∧ x.src.WF
theorem enc_len (x : Pair) : x.enc.length = 34 := by simp [enc, Prefix.enc_len]
theorem enc_sub (x : Pair) : SubL x.enc 0 34 x.enc := by have := SubL.all x.enc; rwa [enc_len] at this
theorem sub_dst (x : Pair) : SubL x.enc 0 17 (x.dst.enc) := by have := seg_sub (segs := [x.dst.enc, x.src.enc]) (i := 0) rfl; simpa [enc, lens, Prefix.enc_len] using this
theorem set_dst (x : Pair) (v : Prefix) : SetL x.enc 0 17 (v.enc) ({ x with dst := v } : Pair).enc := by have := seg_set (segs := [x.dst.enc, x.src.enc]) (i := 0) (s := v.enc) rfl (by simp [Prefix.enc_len]); simpa [enc, lens, Prefix.enc_len] using this
theorem sub_src (x : Pair) : SubL x.enc 17 17 (x.src.enc) := by have := seg_sub (segs := [x.dst.enc, x.src.enc]) (i := 1) rfl; simpa [enc, lens, Prefix.enc_len] using this
theorem set_src (x : Pair) (v : Prefix) : SetL x.enc 17 17 (v.enc) ({ x with src := v } : Pair).enc := by have := seg_set (segs := [x.dst.enc, x.src.enc]) (i := 1) (s := v.enc) rfl (by simp [Prefix.enc_len]); simpa [enc, lens, Prefix.enc_len] using this
theorem enc_cell (x : Pair) : ∀ v ∈ x.enc, Value.cellB v = true := cells_flatten (cells_cons (Prefix.enc_cell x.dst) (cells_cons (Prefix.enc_cell x.src) cells_nil))
def zero : Pair := ⟨Prefix.zero, Prefix.zero⟩
def segs : List (List Value) := [zero.dst.enc, zero.src.enc]
theorem enc_inj {x y : Pair} (h0 : x.enc = y.enc) : x = y := by
  obtain ⟨a0, a1⟩ := x
  obtain ⟨b0, b1⟩ := y
  simp only [enc, List.flatten_cons, List.flatten_nil, List.append_nil] at h0
  obtain ⟨e0, h1⟩ := List.append_inj h0 (by rw [Prefix.enc_len, Prefix.enc_len])
  obtain rfl := Prefix.enc_inj e0
  obtain rfl := Prefix.enc_inj h1
  rfl
end Pair
structure Distance where
  seqno : Int
  metric : Int
deriving DecidableEq
namespace Distance
def enc (x : Distance) : List Value := [[.int .u16 x.seqno], [.int .u16 x.metric]].flatten
/-- Its numbers are numbers of their kinds. -/
def WF (x : Distance) : Prop := (0 ≤ x.seqno ∧ x.seqno ≤ 65535) ∧ (0 ≤ x.metric ∧ x.metric ≤ 65535)
theorem enc_len (x : Distance) : x.enc.length = 2 := by simp [enc]
theorem enc_sub (x : Distance) : SubL x.enc 0 2 x.enc := by have := SubL.all x.enc; rwa [enc_len] at this
theorem sub_seqno (x : Distance) : SubL x.enc 0 1 ([.int .u16 x.seqno]) := by have := seg_sub (segs := [[.int .u16 x.seqno], [.int .u16 x.metric]]) (i := 0) rfl; simpa [enc, lens] using this
theorem set_seqno (x : Distance) (v : Int) : SetL x.enc 0 1 ([.int .u16 v]) ({ x with seqno := v } : Distance).enc := by have := seg_set (segs := [[.int .u16 x.seqno], [.int .u16 x.metric]]) (i := 0) (s := [.int .u16 v]) rfl (by simp); simpa [enc, lens] using this
theorem sub_metric (x : Distance) : SubL x.enc 1 1 ([.int .u16 x.metric]) := by have := seg_sub (segs := [[.int .u16 x.seqno], [.int .u16 x.metric]]) (i := 1) rfl; simpa [enc, lens] using this
theorem set_metric (x : Distance) (v : Int) : SetL x.enc 1 1 ([.int .u16 v]) ({ x with metric := v } : Distance).enc := by have := seg_set (segs := [[.int .u16 x.seqno], [.int .u16 x.metric]]) (i := 1) (s := [.int .u16 v]) rfl (by simp); simpa [enc, lens] using this
theorem enc_cell (x : Distance) : ∀ v ∈ x.enc, Value.cellB v = true := cells_flatten (cells_cons (cell_one rfl) (cells_cons (cell_one rfl) cells_nil))
def zero : Distance := ⟨0, 0⟩
def segs : List (List Value) := [[.int .u16 zero.seqno], [.int .u16 zero.metric]]
theorem enc_inj {x y : Distance} (h0 : x.enc = y.enc) : x = y := by
  obtain ⟨a0, a1⟩ := x
  obtain ⟨b0, b1⟩ := y
  simp only [enc, List.flatten_cons, List.flatten_nil, List.append_nil] at h0
  obtain ⟨e0, h1⟩ := List.append_inj h0 (rfl)
  obtain rfl : a0 = b0 := by simpa using e0
  obtain rfl : a1 = b1 := by simpa using h1
  rfl
end Distance
structure Law15Act where
  kind : Int
  gap : Int
  p : Pair
  id_ : Bs 8
  d : Distance
deriving DecidableEq
namespace Law15Act
def enc (x : Law15Act) : List Value := [[.int .i64 x.kind], [.int .i64 x.gap], x.p.enc, x.id_.enc, x.d.enc].flatten
/-- Its numbers are numbers of their kinds. -/
def WF (x : Law15Act) : Prop := (-9223372036854775808 ≤ x.kind ∧ x.kind ≤ 9223372036854775807) ∧ (-9223372036854775808 ≤ x.gap ∧ x.gap ≤ 9223372036854775807) ∧ x.p.WF ∧ True ∧ x.d.WF
theorem enc_len (x : Law15Act) : x.enc.length = 46 := by simp [enc, Bs.len, Distance.enc_len, Pair.enc_len]
theorem enc_sub (x : Law15Act) : SubL x.enc 0 46 x.enc := by have := SubL.all x.enc; rwa [enc_len] at this
theorem sub_kind (x : Law15Act) : SubL x.enc 0 1 ([.int .i64 x.kind]) := by have := seg_sub (segs := [[.int .i64 x.kind], [.int .i64 x.gap], x.p.enc, x.id_.enc, x.d.enc]) (i := 0) rfl; simpa [enc, lens, Bs.len, Distance.enc_len, Pair.enc_len] using this
theorem set_kind (x : Law15Act) (v : Int) : SetL x.enc 0 1 ([.int .i64 v]) ({ x with kind := v } : Law15Act).enc := by have := seg_set (segs := [[.int .i64 x.kind], [.int .i64 x.gap], x.p.enc, x.id_.enc, x.d.enc]) (i := 0) (s := [.int .i64 v]) rfl (by simp [Bs.len, Distance.enc_len, Pair.enc_len]); simpa [enc, lens, Bs.len, Distance.enc_len, Pair.enc_len] using this
theorem sub_gap (x : Law15Act) : SubL x.enc 1 1 ([.int .i64 x.gap]) := by have := seg_sub (segs := [[.int .i64 x.kind], [.int .i64 x.gap], x.p.enc, x.id_.enc, x.d.enc]) (i := 1) rfl; simpa [enc, lens, Bs.len, Distance.enc_len, Pair.enc_len] using this
theorem set_gap (x : Law15Act) (v : Int) : SetL x.enc 1 1 ([.int .i64 v]) ({ x with gap := v } : Law15Act).enc := by have := seg_set (segs := [[.int .i64 x.kind], [.int .i64 x.gap], x.p.enc, x.id_.enc, x.d.enc]) (i := 1) (s := [.int .i64 v]) rfl (by simp [Bs.len, Distance.enc_len, Pair.enc_len]); simpa [enc, lens, Bs.len, Distance.enc_len, Pair.enc_len] using this
theorem sub_p (x : Law15Act) : SubL x.enc 2 34 (x.p.enc) := by have := seg_sub (segs := [[.int .i64 x.kind], [.int .i64 x.gap], x.p.enc, x.id_.enc, x.d.enc]) (i := 2) rfl; simpa [enc, lens, Bs.len, Distance.enc_len, Pair.enc_len] using this
theorem set_p (x : Law15Act) (v : Pair) : SetL x.enc 2 34 (v.enc) ({ x with p := v } : Law15Act).enc := by have := seg_set (segs := [[.int .i64 x.kind], [.int .i64 x.gap], x.p.enc, x.id_.enc, x.d.enc]) (i := 2) (s := v.enc) rfl (by simp [Bs.len, Distance.enc_len, Pair.enc_len]); simpa [enc, lens, Bs.len, Distance.enc_len, Pair.enc_len] using this
theorem sub_id_ (x : Law15Act) : SubL x.enc 36 8 (x.id_.enc) := by have := seg_sub (segs := [[.int .i64 x.kind], [.int .i64 x.gap], x.p.enc, x.id_.enc, x.d.enc]) (i := 3) rfl; simpa [enc, lens, Bs.len, Distance.enc_len, Pair.enc_len] using this
theorem set_id_ (x : Law15Act) (v : Bs 8) : SetL x.enc 36 8 (v.enc) ({ x with id_ := v } : Law15Act).enc := by have := seg_set (segs := [[.int .i64 x.kind], [.int .i64 x.gap], x.p.enc, x.id_.enc, x.d.enc]) (i := 3) (s := v.enc) rfl (by simp [Bs.len, Distance.enc_len, Pair.enc_len]); simpa [enc, lens, Bs.len, Distance.enc_len, Pair.enc_len] using this
theorem sub_d (x : Law15Act) : SubL x.enc 44 2 (x.d.enc) := by have := seg_sub (segs := [[.int .i64 x.kind], [.int .i64 x.gap], x.p.enc, x.id_.enc, x.d.enc]) (i := 4) rfl; simpa [enc, lens, Bs.len, Distance.enc_len, Pair.enc_len] using this
theorem set_d (x : Law15Act) (v : Distance) : SetL x.enc 44 2 (v.enc) ({ x with d := v } : Law15Act).enc := by have := seg_set (segs := [[.int .i64 x.kind], [.int .i64 x.gap], x.p.enc, x.id_.enc, x.d.enc]) (i := 4) (s := v.enc) rfl (by simp [Bs.len, Distance.enc_len, Pair.enc_len]); simpa [enc, lens, Bs.len, Distance.enc_len, Pair.enc_len] using this
theorem enc_cell (x : Law15Act) : ∀ v ∈ x.enc, Value.cellB v = true := cells_flatten (cells_cons (cell_one rfl) (cells_cons (cell_one rfl) (cells_cons (Pair.enc_cell x.p) (cells_cons (Bs.cell x.id_) (cells_cons (Distance.enc_cell x.d) cells_nil)))))
def zero : Law15Act := ⟨0, 0, Pair.zero, (Bs.zero 8), Distance.zero⟩
def segs : List (List Value) := [[.int .i64 zero.kind], [.int .i64 zero.gap], zero.p.enc, zero.id_.enc, zero.d.enc]
theorem enc_inj {x y : Law15Act} (h0 : x.enc = y.enc) : x = y := by
  obtain ⟨a0, a1, a2, a3, a4⟩ := x
  obtain ⟨b0, b1, b2, b3, b4⟩ := y
  simp only [enc, List.flatten_cons, List.flatten_nil, List.append_nil] at h0
  obtain ⟨e0, h1⟩ := List.append_inj h0 (rfl)
  obtain rfl : a0 = b0 := by simpa using e0
  obtain ⟨e1, h2⟩ := List.append_inj h1 (rfl)
  obtain rfl : a1 = b1 := by simpa using e1
  obtain ⟨e2, h3⟩ := List.append_inj h2 (by rw [Pair.enc_len, Pair.enc_len])
  obtain rfl := Pair.enc_inj e2
  obtain ⟨e3, h4⟩ := List.append_inj h3 (by rw [Bs.len, Bs.len])
  obtain rfl := Bs.enc_inj e3
  obtain rfl := Distance.enc_inj h4
  rfl
end Law15Act
structure Source where
  pair : Pair
  id_ : Bs 8
  d : Distance
  at_ : Int
deriving DecidableEq
namespace Source
def enc (x : Source) : List Value := [x.pair.enc, x.id_.enc, x.d.enc, [.int .i64 x.at_]].flatten
/-- Its numbers are numbers of their kinds. -/
def WF (x : Source) : Prop := x.pair.WF ∧ True ∧ x.d.WF ∧ (-9223372036854775808 ≤ x.at_ ∧ x.at_ ≤ 9223372036854775807)
theorem enc_len (x : Source) : x.enc.length = 45 := by simp [enc, Bs.len, Distance.enc_len, Pair.enc_len]
theorem enc_sub (x : Source) : SubL x.enc 0 45 x.enc := by have := SubL.all x.enc; rwa [enc_len] at this
theorem sub_pair (x : Source) : SubL x.enc 0 34 (x.pair.enc) := by have := seg_sub (segs := [x.pair.enc, x.id_.enc, x.d.enc, [.int .i64 x.at_]]) (i := 0) rfl; simpa [enc, lens, Bs.len, Distance.enc_len, Pair.enc_len] using this
theorem set_pair (x : Source) (v : Pair) : SetL x.enc 0 34 (v.enc) ({ x with pair := v } : Source).enc := by have := seg_set (segs := [x.pair.enc, x.id_.enc, x.d.enc, [.int .i64 x.at_]]) (i := 0) (s := v.enc) rfl (by simp [Bs.len, Distance.enc_len, Pair.enc_len]); simpa [enc, lens, Bs.len, Distance.enc_len, Pair.enc_len] using this
theorem sub_id_ (x : Source) : SubL x.enc 34 8 (x.id_.enc) := by have := seg_sub (segs := [x.pair.enc, x.id_.enc, x.d.enc, [.int .i64 x.at_]]) (i := 1) rfl; simpa [enc, lens, Bs.len, Distance.enc_len, Pair.enc_len] using this
theorem set_id_ (x : Source) (v : Bs 8) : SetL x.enc 34 8 (v.enc) ({ x with id_ := v } : Source).enc := by have := seg_set (segs := [x.pair.enc, x.id_.enc, x.d.enc, [.int .i64 x.at_]]) (i := 1) (s := v.enc) rfl (by simp [Bs.len, Distance.enc_len, Pair.enc_len]); simpa [enc, lens, Bs.len, Distance.enc_len, Pair.enc_len] using this
theorem sub_d (x : Source) : SubL x.enc 42 2 (x.d.enc) := by have := seg_sub (segs := [x.pair.enc, x.id_.enc, x.d.enc, [.int .i64 x.at_]]) (i := 2) rfl; simpa [enc, lens, Bs.len, Distance.enc_len, Pair.enc_len] using this
theorem set_d (x : Source) (v : Distance) : SetL x.enc 42 2 (v.enc) ({ x with d := v } : Source).enc := by have := seg_set (segs := [x.pair.enc, x.id_.enc, x.d.enc, [.int .i64 x.at_]]) (i := 2) (s := v.enc) rfl (by simp [Bs.len, Distance.enc_len, Pair.enc_len]); simpa [enc, lens, Bs.len, Distance.enc_len, Pair.enc_len] using this
theorem sub_at_ (x : Source) : SubL x.enc 44 1 ([.int .i64 x.at_]) := by have := seg_sub (segs := [x.pair.enc, x.id_.enc, x.d.enc, [.int .i64 x.at_]]) (i := 3) rfl; simpa [enc, lens, Bs.len, Distance.enc_len, Pair.enc_len] using this
theorem set_at_ (x : Source) (v : Int) : SetL x.enc 44 1 ([.int .i64 v]) ({ x with at_ := v } : Source).enc := by have := seg_set (segs := [x.pair.enc, x.id_.enc, x.d.enc, [.int .i64 x.at_]]) (i := 3) (s := [.int .i64 v]) rfl (by simp [Bs.len, Distance.enc_len, Pair.enc_len]); simpa [enc, lens, Bs.len, Distance.enc_len, Pair.enc_len] using this
theorem enc_cell (x : Source) : ∀ v ∈ x.enc, Value.cellB v = true := cells_flatten (cells_cons (Pair.enc_cell x.pair) (cells_cons (Bs.cell x.id_) (cells_cons (Distance.enc_cell x.d) (cells_cons (cell_one rfl) cells_nil))))
def zero : Source := ⟨Pair.zero, (Bs.zero 8), Distance.zero, 0⟩
def segs : List (List Value) := [zero.pair.enc, zero.id_.enc, zero.d.enc, [.int .i64 zero.at_]]
theorem enc_inj {x y : Source} (h0 : x.enc = y.enc) : x = y := by
  obtain ⟨a0, a1, a2, a3⟩ := x
  obtain ⟨b0, b1, b2, b3⟩ := y
  simp only [enc, List.flatten_cons, List.flatten_nil, List.append_nil] at h0
  obtain ⟨e0, h1⟩ := List.append_inj h0 (by rw [Pair.enc_len, Pair.enc_len])
  obtain rfl := Pair.enc_inj e0
  obtain ⟨e1, h2⟩ := List.append_inj h1 (by rw [Bs.len, Bs.len])
  obtain rfl := Bs.enc_inj e1
  obtain ⟨e2, h3⟩ := List.append_inj h2 (by rw [Distance.enc_len, Distance.enc_len])
  obtain rfl := Distance.enc_inj e2
  obtain rfl : a3 = b3 := by simpa using h3
  rfl
end Source
structure Ref15Table where
  most : Int
  l : Slc
namespace Ref15Table
def enc (x : Ref15Table) : List Value := [[.int .i64 x.most], [Slc.v x.l]].flatten
/-- Its numbers are numbers of their kinds. -/
def WF (x : Ref15Table) : Prop := (-9223372036854775808 ≤ x.most ∧ x.most ≤ 9223372036854775807) ∧ True
theorem enc_len (x : Ref15Table) : x.enc.length = 2 := by simp [enc]
theorem enc_sub (x : Ref15Table) : SubL x.enc 0 2 x.enc := by have := SubL.all x.enc; rwa [enc_len] at this
theorem sub_most (x : Ref15Table) : SubL x.enc 0 1 ([.int .i64 x.most]) := by have := seg_sub (segs := [[.int .i64 x.most], [Slc.v x.l]]) (i := 0) rfl; simpa [enc, lens] using this
theorem set_most (x : Ref15Table) (v : Int) : SetL x.enc 0 1 ([.int .i64 v]) ({ x with most := v } : Ref15Table).enc := by have := seg_set (segs := [[.int .i64 x.most], [Slc.v x.l]]) (i := 0) (s := [.int .i64 v]) rfl (by simp); simpa [enc, lens] using this
theorem sub_l (x : Ref15Table) : SubL x.enc 1 1 ([Slc.v x.l]) := by have := seg_sub (segs := [[.int .i64 x.most], [Slc.v x.l]]) (i := 1) rfl; simpa [enc, lens] using this
theorem set_l (x : Ref15Table) (v : Slc) : SetL x.enc 1 1 ([Slc.v v]) ({ x with l := v } : Ref15Table).enc := by have := seg_set (segs := [[.int .i64 x.most], [Slc.v x.l]]) (i := 1) (s := [Slc.v v]) rfl (by simp); simpa [enc, lens] using this
theorem enc_cell (x : Ref15Table) : ∀ v ∈ x.enc, Value.cellB v = true := cells_flatten (cells_cons (cell_one rfl) (cells_cons (cell_one rfl) cells_nil))
def zero : Ref15Table := ⟨0, Slc.zero⟩
def segs : List (List Value) := [[.int .i64 zero.most], [Slc.v zero.l]]
end Ref15Table
structure SourceTable where
  most : Int
  m : Option Nat
namespace SourceTable
def enc (x : SourceTable) : List Value := [[.int .i64 x.most], [.map x.m]].flatten
/-- Its numbers are numbers of their kinds. -/
def WF (x : SourceTable) : Prop := (-9223372036854775808 ≤ x.most ∧ x.most ≤ 9223372036854775807) ∧ True
theorem enc_len (x : SourceTable) : x.enc.length = 2 := by simp [enc]
theorem enc_sub (x : SourceTable) : SubL x.enc 0 2 x.enc := by have := SubL.all x.enc; rwa [enc_len] at this
theorem sub_most (x : SourceTable) : SubL x.enc 0 1 ([.int .i64 x.most]) := by have := seg_sub (segs := [[.int .i64 x.most], [.map x.m]]) (i := 0) rfl; simpa [enc, lens] using this
theorem set_most (x : SourceTable) (v : Int) : SetL x.enc 0 1 ([.int .i64 v]) ({ x with most := v } : SourceTable).enc := by have := seg_set (segs := [[.int .i64 x.most], [.map x.m]]) (i := 0) (s := [.int .i64 v]) rfl (by simp); simpa [enc, lens] using this
theorem sub_m (x : SourceTable) : SubL x.enc 1 1 ([.map x.m]) := by have := seg_sub (segs := [[.int .i64 x.most], [.map x.m]]) (i := 1) rfl; simpa [enc, lens] using this
theorem set_m (x : SourceTable) (v : Option Nat) : SetL x.enc 1 1 ([.map v]) ({ x with m := v } : SourceTable).enc := by have := seg_set (segs := [[.int .i64 x.most], [.map x.m]]) (i := 1) (s := [.map v]) rfl (by simp); simpa [enc, lens] using this
theorem enc_cell (x : SourceTable) : ∀ v ∈ x.enc, Value.cellB v = true := cells_flatten (cells_cons (cell_one rfl) (cells_cons (cell_one rfl) cells_nil))
def zero : SourceTable := ⟨0, none⟩
def segs : List (List Value) := [[.int .i64 zero.most], [.map zero.m]]
end SourceTable
structure SourceKey where
  p : Pair
  id_ : Bs 8
deriving DecidableEq
namespace SourceKey
def enc (x : SourceKey) : List Value := [x.p.enc, x.id_.enc].flatten
/-- Its numbers are numbers of their kinds. -/
def WF (x : SourceKey) : Prop := x.p.WF ∧ True
theorem enc_len (x : SourceKey) : x.enc.length = 42 := by simp [enc, Bs.len, Pair.enc_len]
theorem enc_sub (x : SourceKey) : SubL x.enc 0 42 x.enc := by have := SubL.all x.enc; rwa [enc_len] at this
theorem sub_p (x : SourceKey) : SubL x.enc 0 34 (x.p.enc) := by have := seg_sub (segs := [x.p.enc, x.id_.enc]) (i := 0) rfl; simpa [enc, lens, Bs.len, Pair.enc_len] using this
theorem set_p (x : SourceKey) (v : Pair) : SetL x.enc 0 34 (v.enc) ({ x with p := v } : SourceKey).enc := by have := seg_set (segs := [x.p.enc, x.id_.enc]) (i := 0) (s := v.enc) rfl (by simp [Bs.len, Pair.enc_len]); simpa [enc, lens, Bs.len, Pair.enc_len] using this
theorem sub_id_ (x : SourceKey) : SubL x.enc 34 8 (x.id_.enc) := by have := seg_sub (segs := [x.p.enc, x.id_.enc]) (i := 1) rfl; simpa [enc, lens, Bs.len, Pair.enc_len] using this
theorem set_id_ (x : SourceKey) (v : Bs 8) : SetL x.enc 34 8 (v.enc) ({ x with id_ := v } : SourceKey).enc := by have := seg_set (segs := [x.p.enc, x.id_.enc]) (i := 1) (s := v.enc) rfl (by simp [Bs.len, Pair.enc_len]); simpa [enc, lens, Bs.len, Pair.enc_len] using this
theorem enc_cell (x : SourceKey) : ∀ v ∈ x.enc, Value.cellB v = true := cells_flatten (cells_cons (Pair.enc_cell x.p) (cells_cons (Bs.cell x.id_) cells_nil))
def zero : SourceKey := ⟨Pair.zero, (Bs.zero 8)⟩
def segs : List (List Value) := [zero.p.enc, zero.id_.enc]
theorem enc_inj {x y : SourceKey} (h0 : x.enc = y.enc) : x = y := by
  obtain ⟨a0, a1⟩ := x
  obtain ⟨b0, b1⟩ := y
  simp only [enc, List.flatten_cons, List.flatten_nil, List.append_nil] at h0
  obtain ⟨e0, h1⟩ := List.append_inj h0 (by rw [Pair.enc_len, Pair.enc_len])
  obtain rfl := Pair.enc_inj e0
  obtain rfl := Bs.enc_inj h1
  rfl
end SourceKey
end Slb
